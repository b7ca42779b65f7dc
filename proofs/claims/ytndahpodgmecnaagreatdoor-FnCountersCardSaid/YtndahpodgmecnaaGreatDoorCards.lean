/-
  DERIVED. GIVEN WITH THE SEED: THE CARDS: each row of YtndahpodgmecnaaGreatDoorRows.lean that lists a variable, with what it lists TIED to the program's text (the seventh form; the later family's looks); each row that meets fmt, with fmt's text TOLD by the authors' own Lean function (tested against real Go, not proved from fmt's source: count such statements apart). THE CARD IS WHAT COUNTS. Prove the row's statement (the work); the ties are given (YtndahpodgmecnaaGreatDoorTie.lean); close each card by the builder's one call (the guide's Derived/Test/ToyasCard.lean, 'card_holds'). Laid BY PROGRAM, IN A SANDBOX (cutbox-door.mjs). By AI agents, Wed Nov 11 2026. No macro, syntax, notation, axiom, sorry.
-/
import Derived.Test.YtndahpodgmecnaaGreatDoorRows
import GoSem.ClaimSeven
namespace Go.Proofs.YtndahpodgmecnaaGreatDoor
namespace Rows

/-- THE TIED CARD OF 'laws.FnCounters'. -/
def fnCountersCard : Claim7 := { stood := { row := fnCountersRow, standIns := [], harness := (true, "d9c8d2a98a14db24ea30799aa402d8bd02cffacdfd0fcc1e9106caf3819741ae"), looks := true }, kinds := [], alts := [], laidByText := true, laidKinds := [.data, .data, .data, .sentinel, .sentinel], laidTests := true, laidLooks := .later }
def FnCountersCardSaid : Prop := Claim7.holds Tryz.pinned (.plain (OpenSpec.ofChange fnCountersSpec)) fnCountersCard

/-- THE TIED CARD OF 'laws.FnExactBumped'. -/
def fnExactBumpedCard : Claim7 := { stood := { row := fnExactBumpedRow, standIns := [], harness := (true, "d9c8d2a98a14db24ea30799aa402d8bd02cffacdfd0fcc1e9106caf3819741ae"), looks := true }, kinds := [], alts := [], laidByText := true, laidKinds := [.data, .data, .data, .sentinel, .sentinel], laidTests := true, laidLooks := .later }
def FnExactBumpedCardSaid : Prop := Claim7.holds Tryz.pinned (.plain (OpenSpec.ofChange fnExactBumpedSpec)) fnExactBumpedCard

/-- THE TIED CARD OF 'laws.FnExactKidsOf'. -/
def fnExactKidsOfCard : Claim7 := { stood := { row := fnExactKidsOfRow, standIns := [], harness := (true, "d9c8d2a98a14db24ea30799aa402d8bd02cffacdfd0fcc1e9106caf3819741ae"), looks := true }, kinds := [], alts := [], laidByText := true, laidKinds := [.data, .data, .data, .sentinel, .sentinel], laidTests := true, laidLooks := .later }
def FnExactKidsOfCardSaid : Prop := Claim7.holds Tryz.pinned (.plain (OpenSpec.ofChange fnExactKidsOfSpec)) fnExactKidsOfCard

/-- THE SECOND FORM's CARD OF 'laws.FnCounters'. -/
def fnCountersUptoCard : Claim7 := { stood := { row := fnCountersUptoRow, standIns := [], harness := (true, "d9c8d2a98a14db24ea30799aa402d8bd02cffacdfd0fcc1e9106caf3819741ae"), looks := true }, kinds := [], alts := [], laidByText := true, laidKinds := [.data, .data, .data, .sentinel, .sentinel], laidTests := true, laidLooks := .later }
def FnCountersUptoCardSaid : Prop := Claim7.holds Tryz.pinned (.plain (OpenSpec.upto fnCountersSpec)) fnCountersUptoCard

/-- THE SECOND FORM's CARD OF 'laws.FnExactBumped'. -/
def fnExactBumpedUptoCard : Claim7 := { stood := { row := fnExactBumpedUptoRow, standIns := [], harness := (true, "d9c8d2a98a14db24ea30799aa402d8bd02cffacdfd0fcc1e9106caf3819741ae"), looks := true }, kinds := [], alts := [], laidByText := true, laidKinds := [.data, .data, .data, .sentinel, .sentinel], laidTests := true, laidLooks := .later }
def FnExactBumpedUptoCardSaid : Prop := Claim7.holds Tryz.pinned (.plain (OpenSpec.upto fnExactBumpedSpec)) fnExactBumpedUptoCard

/-- THE SECOND FORM's CARD OF 'laws.FnExactKidsOf'. -/
def fnExactKidsOfUptoCard : Claim7 := { stood := { row := fnExactKidsOfUptoRow, standIns := [], harness := (true, "d9c8d2a98a14db24ea30799aa402d8bd02cffacdfd0fcc1e9106caf3819741ae"), looks := true }, kinds := [], alts := [], laidByText := true, laidKinds := [.data, .data, .data, .sentinel, .sentinel], laidTests := true, laidLooks := .later }
def FnExactKidsOfUptoCardSaid : Prop := Claim7.holds Tryz.pinned (.plain (OpenSpec.upto fnExactKidsOfSpec)) fnExactKidsOfUptoCard
end Rows
end Go.Proofs.YtndahpodgmecnaaGreatDoor
