/-
  DERIVED. GIVEN WITH THE SEED: THE CARDS: each row of YtghfijncihbojaaGreatDoorRows.lean that lists a variable, with what it lists TIED to the program's text (the seventh form; the later family's looks); each row that meets fmt, with fmt's text TOLD by the authors' own Lean function (tested against real Go, not proved from fmt's source: count such statements apart). THE CARD IS WHAT COUNTS. Prove the row's statement (the work); the ties are given (YtghfijncihbojaaGreatDoorTie.lean); close each card by the builder's one call (the guide's Derived/Test/ToyasCard.lean, 'card_holds'). Laid BY PROGRAM, IN A SANDBOX (cutbox-door.mjs). By AI agents, Wed Nov 11 2026. No macro, syntax, notation, axiom, sorry.
-/
import Derived.Test.YtghfijncihbojaaGreatDoorRows
import GoSem.ClaimSeven
namespace Go.Proofs.YtghfijncihbojaaGreatDoor
namespace Rows

/-- THE TIED CARD OF 'laws.FnMarkLimit'. -/
def fnMarkLimitCard : Claim7 := { stood := { row := fnMarkLimitRow, standIns := [], harness := (true, "0607df49ef898048976b1373896962b800c2c3de8e1443063ae5181d6fa4fddf"), looks := true }, kinds := [], alts := [], laidByText := true, laidKinds := [.data, .data, .data, .sentinel, .sentinel, .sentinel], laidTests := true, laidLooks := .later }
def FnMarkLimitCardSaid : Prop := Claim7.holds Tryz.pinned (.plain (OpenSpec.ofChange fnMarkLimitSpec)) fnMarkLimitCard

/-- THE TIED CARD OF 'laws.FnTxFull'. -/
def fnTxFullCard : Claim7 := { stood := { row := fnTxFullRow, standIns := [], harness := (true, "0607df49ef898048976b1373896962b800c2c3de8e1443063ae5181d6fa4fddf"), looks := true }, kinds := [], alts := [], laidByText := true, laidKinds := [.data, .data, .data, .sentinel, .sentinel, .sentinel], laidTests := true, laidLooks := .later }
def FnTxFullCardSaid : Prop := Claim7.holds Tryz.pinned (.plain (OpenSpec.ofChange fnTxFullSpec)) fnTxFullCard

/-- THE TIED CARD OF 'laws.FnExactDoCall'. -/
def fnExactDoCallCard : Claim7 := { stood := { row := fnExactDoCallRow, standIns := [], harness := (true, "0607df49ef898048976b1373896962b800c2c3de8e1443063ae5181d6fa4fddf"), looks := true }, kinds := [], alts := [], laidByText := true, laidKinds := [.data, .data, .data, .sentinel, .sentinel, .sentinel], laidTests := true, laidLooks := .later }
def FnExactDoCallCardSaid : Prop := Claim7.holds Tryz.pinned (.plain (OpenSpec.ofChange fnExactDoCallSpec)) fnExactDoCallCard

/-- THE SECOND FORM's CARD OF 'laws.FnMarkLimit'. -/
def fnMarkLimitUptoCard : Claim7 := { stood := { row := fnMarkLimitUptoRow, standIns := [], harness := (true, "0607df49ef898048976b1373896962b800c2c3de8e1443063ae5181d6fa4fddf"), looks := true }, kinds := [], alts := [], laidByText := true, laidKinds := [.data, .data, .data, .sentinel, .sentinel, .sentinel], laidTests := true, laidLooks := .later }
def FnMarkLimitUptoCardSaid : Prop := Claim7.holds Tryz.pinned (.plain (OpenSpec.upto fnMarkLimitSpec)) fnMarkLimitUptoCard

/-- THE SECOND FORM's CARD OF 'laws.FnTxFull'. -/
def fnTxFullUptoCard : Claim7 := { stood := { row := fnTxFullUptoRow, standIns := [], harness := (true, "0607df49ef898048976b1373896962b800c2c3de8e1443063ae5181d6fa4fddf"), looks := true }, kinds := [], alts := [], laidByText := true, laidKinds := [.data, .data, .data, .sentinel, .sentinel, .sentinel], laidTests := true, laidLooks := .later }
def FnTxFullUptoCardSaid : Prop := Claim7.holds Tryz.pinned (.plain (OpenSpec.upto fnTxFullSpec)) fnTxFullUptoCard

/-- THE SECOND FORM's CARD OF 'laws.FnExactDoCall'. -/
def fnExactDoCallUptoCard : Claim7 := { stood := { row := fnExactDoCallUptoRow, standIns := [], harness := (true, "0607df49ef898048976b1373896962b800c2c3de8e1443063ae5181d6fa4fddf"), looks := true }, kinds := [], alts := [], laidByText := true, laidKinds := [.data, .data, .data, .sentinel, .sentinel, .sentinel], laidTests := true, laidLooks := .later }
def FnExactDoCallUptoCardSaid : Prop := Claim7.holds Tryz.pinned (.plain (OpenSpec.upto fnExactDoCallSpec)) fnExactDoCallUptoCard
end Rows
end Go.Proofs.YtghfijncihbojaaGreatDoor
