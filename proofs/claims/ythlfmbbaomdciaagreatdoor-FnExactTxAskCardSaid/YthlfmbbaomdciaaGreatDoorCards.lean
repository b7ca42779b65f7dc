/-
  DERIVED. GIVEN WITH THE SEED: THE CARDS: each row of YthlfmbbaomdciaaGreatDoorRows.lean that lists a variable, with what it lists TIED to the program's text (the seventh form; the later family's looks); each row that meets fmt, with fmt's text TOLD by the authors' own Lean function (tested against real Go, not proved from fmt's source: count such statements apart). THE CARD IS WHAT COUNTS. Prove the row's statement (the work); the ties are given (YthlfmbbaomdciaaGreatDoorTie.lean); close each card by the builder's one call (the guide's Derived/Test/ToyasCard.lean, 'card_holds'). Laid BY PROGRAM, IN A SANDBOX (cutbox-door.mjs). By AI agents, Wed Nov 11 2026. No macro, syntax, notation, axiom, sorry.
-/
import Derived.Test.YthlfmbbaomdciaaGreatDoorRows
import GoSem.ClaimSeven
namespace Go.Proofs.YthlfmbbaomdciaaGreatDoor
namespace Rows

/-- THE TIED CARD OF 'laws.FnTwoSee'. -/
def fnTwoSeeCard : Claim7 := { stood := { row := fnTwoSeeRow, standIns := [], harness := (true, "355e57a9ee6ee8b7e91dfccf012d60f0711289dc419db4e93a4e15f9357feab9"), looks := true }, kinds := [], alts := [], laidByText := true, laidKinds := [.data, .data, .data, .sentinel, .sentinel, .sentinel], laidTests := true, laidLooks := .later }
def FnTwoSeeCardSaid : Prop := Claim7.holds Tryz.pinned (.plain (OpenSpec.ofChange fnTwoSeeSpec)) fnTwoSeeCard

/-- THE TIED CARD OF 'laws.FnTouchGrows'. -/
def fnTouchGrowsCard : Claim7 := { stood := { row := fnTouchGrowsRow, standIns := [], harness := (true, "355e57a9ee6ee8b7e91dfccf012d60f0711289dc419db4e93a4e15f9357feab9"), looks := true }, kinds := [], alts := [], laidByText := true, laidKinds := [.data, .data, .data, .sentinel, .sentinel, .sentinel], laidTests := true, laidLooks := .later }
def FnTouchGrowsCardSaid : Prop := Claim7.holds Tryz.pinned (.plain (OpenSpec.ofChange fnTouchGrowsSpec)) fnTouchGrowsCard

/-- THE TIED CARD OF 'laws.FnBackAgain'. -/
def fnBackAgainCard : Claim7 := { stood := { row := fnBackAgainRow, standIns := [], harness := (true, "355e57a9ee6ee8b7e91dfccf012d60f0711289dc419db4e93a4e15f9357feab9"), looks := true }, kinds := [], alts := [], laidByText := true, laidKinds := [.data, .data, .data, .sentinel, .sentinel, .sentinel], laidTests := true, laidLooks := .later }
def FnBackAgainCardSaid : Prop := Claim7.holds Tryz.pinned (.plain (OpenSpec.ofChange fnBackAgainSpec)) fnBackAgainCard

/-- THE TIED CARD OF 'laws.FnDone'. -/
def fnDoneCard : Claim7 := { stood := { row := fnDoneRow, standIns := [], harness := (true, "355e57a9ee6ee8b7e91dfccf012d60f0711289dc419db4e93a4e15f9357feab9"), looks := true }, kinds := [], alts := [], laidByText := true, laidKinds := [.data, .data, .data, .sentinel, .sentinel, .sentinel], laidTests := true, laidLooks := .later }
def FnDoneCardSaid : Prop := Claim7.holds Tryz.pinned (.plain (OpenSpec.ofChange fnDoneSpec)) fnDoneCard

/-- THE TIED CARD OF 'laws.FnTxSees'. -/
def fnTxSeesCard : Claim7 := { stood := { row := fnTxSeesRow, standIns := [], harness := (true, "355e57a9ee6ee8b7e91dfccf012d60f0711289dc419db4e93a4e15f9357feab9"), looks := true }, kinds := [], alts := [], laidByText := true, laidKinds := [.data, .data, .data, .sentinel, .sentinel, .sentinel], laidTests := true, laidLooks := .later }
def FnTxSeesCardSaid : Prop := Claim7.holds Tryz.pinned (.plain (OpenSpec.ofChange fnTxSeesSpec)) fnTxSeesCard

/-- THE TIED CARD OF 'laws.FnTxIsRun'. -/
def fnTxIsRunCard : Claim7 := { stood := { row := fnTxIsRunRow, standIns := [], harness := (true, "355e57a9ee6ee8b7e91dfccf012d60f0711289dc419db4e93a4e15f9357feab9"), looks := true }, kinds := [], alts := [], laidByText := true, laidKinds := [.data, .data, .data, .sentinel, .sentinel, .sentinel], laidTests := true, laidLooks := .later }
def FnTxIsRunCardSaid : Prop := Claim7.holds Tryz.pinned (.plain (OpenSpec.ofChange fnTxIsRunSpec)) fnTxIsRunCard

/-- THE TIED CARD OF 'laws.FnTwoApart'. -/
def fnTwoApartCard : Claim7 := { stood := { row := fnTwoApartRow, standIns := [], harness := (true, "355e57a9ee6ee8b7e91dfccf012d60f0711289dc419db4e93a4e15f9357feab9"), looks := true }, kinds := [], alts := [], laidByText := true, laidKinds := [.data, .data, .data, .sentinel, .sentinel, .sentinel], laidTests := true, laidLooks := .later }
def FnTwoApartCardSaid : Prop := Claim7.holds Tryz.pinned (.plain (OpenSpec.ofChange fnTwoApartSpec)) fnTwoApartCard

/-- THE TIED CARD OF 'laws.FnTxHolds'. -/
def fnTxHoldsCard : Claim7 := { stood := { row := fnTxHoldsRow, standIns := [], harness := (true, "355e57a9ee6ee8b7e91dfccf012d60f0711289dc419db4e93a4e15f9357feab9"), looks := true }, kinds := [], alts := [], laidByText := true, laidKinds := [.data, .data, .data, .sentinel, .sentinel, .sentinel], laidTests := true, laidLooks := .later }
def FnTxHoldsCardSaid : Prop := Claim7.holds Tryz.pinned (.plain (OpenSpec.ofChange fnTxHoldsSpec)) fnTxHoldsCard

/-- THE TIED CARD OF 'laws.FnClashing'. -/
def fnClashingCard : Claim7 := { stood := { row := fnClashingRow, standIns := [], harness := (true, "355e57a9ee6ee8b7e91dfccf012d60f0711289dc419db4e93a4e15f9357feab9"), looks := true }, kinds := [], alts := [], laidByText := true, laidKinds := [.data, .data, .data, .sentinel, .sentinel, .sentinel], laidTests := true, laidLooks := .later }
def FnClashingCardSaid : Prop := Claim7.holds Tryz.pinned (.plain (OpenSpec.ofChange fnClashingSpec)) fnClashingCard

/-- THE TIED CARD OF 'laws.FnExactTxAsk'. -/
def fnExactTxAskCard : Claim7 := { stood := { row := fnExactTxAskRow, standIns := [], harness := (true, "355e57a9ee6ee8b7e91dfccf012d60f0711289dc419db4e93a4e15f9357feab9"), looks := true }, kinds := [], alts := [], laidByText := true, laidKinds := [.data, .data, .data, .sentinel, .sentinel, .sentinel], laidTests := true, laidLooks := .later }
def FnExactTxAskCardSaid : Prop := Claim7.holds Tryz.pinned (.plain (OpenSpec.ofChange fnExactTxAskSpec)) fnExactTxAskCard

/-- THE SECOND FORM's CARD OF 'laws.FnTwoSee'. -/
def fnTwoSeeUptoCard : Claim7 := { stood := { row := fnTwoSeeUptoRow, standIns := [], harness := (true, "355e57a9ee6ee8b7e91dfccf012d60f0711289dc419db4e93a4e15f9357feab9"), looks := true }, kinds := [], alts := [], laidByText := true, laidKinds := [.data, .data, .data, .sentinel, .sentinel, .sentinel], laidTests := true, laidLooks := .later }
def FnTwoSeeUptoCardSaid : Prop := Claim7.holds Tryz.pinned (.plain (OpenSpec.upto fnTwoSeeSpec)) fnTwoSeeUptoCard

/-- THE SECOND FORM's CARD OF 'laws.FnTouchGrows'. -/
def fnTouchGrowsUptoCard : Claim7 := { stood := { row := fnTouchGrowsUptoRow, standIns := [], harness := (true, "355e57a9ee6ee8b7e91dfccf012d60f0711289dc419db4e93a4e15f9357feab9"), looks := true }, kinds := [], alts := [], laidByText := true, laidKinds := [.data, .data, .data, .sentinel, .sentinel, .sentinel], laidTests := true, laidLooks := .later }
def FnTouchGrowsUptoCardSaid : Prop := Claim7.holds Tryz.pinned (.plain (OpenSpec.upto fnTouchGrowsSpec)) fnTouchGrowsUptoCard

/-- THE SECOND FORM's CARD OF 'laws.FnBackAgain'. -/
def fnBackAgainUptoCard : Claim7 := { stood := { row := fnBackAgainUptoRow, standIns := [], harness := (true, "355e57a9ee6ee8b7e91dfccf012d60f0711289dc419db4e93a4e15f9357feab9"), looks := true }, kinds := [], alts := [], laidByText := true, laidKinds := [.data, .data, .data, .sentinel, .sentinel, .sentinel], laidTests := true, laidLooks := .later }
def FnBackAgainUptoCardSaid : Prop := Claim7.holds Tryz.pinned (.plain (OpenSpec.upto fnBackAgainSpec)) fnBackAgainUptoCard

/-- THE SECOND FORM's CARD OF 'laws.FnDone'. -/
def fnDoneUptoCard : Claim7 := { stood := { row := fnDoneUptoRow, standIns := [], harness := (true, "355e57a9ee6ee8b7e91dfccf012d60f0711289dc419db4e93a4e15f9357feab9"), looks := true }, kinds := [], alts := [], laidByText := true, laidKinds := [.data, .data, .data, .sentinel, .sentinel, .sentinel], laidTests := true, laidLooks := .later }
def FnDoneUptoCardSaid : Prop := Claim7.holds Tryz.pinned (.plain (OpenSpec.upto fnDoneSpec)) fnDoneUptoCard

/-- THE SECOND FORM's CARD OF 'laws.FnTxSees'. -/
def fnTxSeesUptoCard : Claim7 := { stood := { row := fnTxSeesUptoRow, standIns := [], harness := (true, "355e57a9ee6ee8b7e91dfccf012d60f0711289dc419db4e93a4e15f9357feab9"), looks := true }, kinds := [], alts := [], laidByText := true, laidKinds := [.data, .data, .data, .sentinel, .sentinel, .sentinel], laidTests := true, laidLooks := .later }
def FnTxSeesUptoCardSaid : Prop := Claim7.holds Tryz.pinned (.plain (OpenSpec.upto fnTxSeesSpec)) fnTxSeesUptoCard

/-- THE SECOND FORM's CARD OF 'laws.FnTxIsRun'. -/
def fnTxIsRunUptoCard : Claim7 := { stood := { row := fnTxIsRunUptoRow, standIns := [], harness := (true, "355e57a9ee6ee8b7e91dfccf012d60f0711289dc419db4e93a4e15f9357feab9"), looks := true }, kinds := [], alts := [], laidByText := true, laidKinds := [.data, .data, .data, .sentinel, .sentinel, .sentinel], laidTests := true, laidLooks := .later }
def FnTxIsRunUptoCardSaid : Prop := Claim7.holds Tryz.pinned (.plain (OpenSpec.upto fnTxIsRunSpec)) fnTxIsRunUptoCard

/-- THE SECOND FORM's CARD OF 'laws.FnTwoApart'. -/
def fnTwoApartUptoCard : Claim7 := { stood := { row := fnTwoApartUptoRow, standIns := [], harness := (true, "355e57a9ee6ee8b7e91dfccf012d60f0711289dc419db4e93a4e15f9357feab9"), looks := true }, kinds := [], alts := [], laidByText := true, laidKinds := [.data, .data, .data, .sentinel, .sentinel, .sentinel], laidTests := true, laidLooks := .later }
def FnTwoApartUptoCardSaid : Prop := Claim7.holds Tryz.pinned (.plain (OpenSpec.upto fnTwoApartSpec)) fnTwoApartUptoCard

/-- THE SECOND FORM's CARD OF 'laws.FnTxHolds'. -/
def fnTxHoldsUptoCard : Claim7 := { stood := { row := fnTxHoldsUptoRow, standIns := [], harness := (true, "355e57a9ee6ee8b7e91dfccf012d60f0711289dc419db4e93a4e15f9357feab9"), looks := true }, kinds := [], alts := [], laidByText := true, laidKinds := [.data, .data, .data, .sentinel, .sentinel, .sentinel], laidTests := true, laidLooks := .later }
def FnTxHoldsUptoCardSaid : Prop := Claim7.holds Tryz.pinned (.plain (OpenSpec.upto fnTxHoldsSpec)) fnTxHoldsUptoCard

/-- THE SECOND FORM's CARD OF 'laws.FnClashing'. -/
def fnClashingUptoCard : Claim7 := { stood := { row := fnClashingUptoRow, standIns := [], harness := (true, "355e57a9ee6ee8b7e91dfccf012d60f0711289dc419db4e93a4e15f9357feab9"), looks := true }, kinds := [], alts := [], laidByText := true, laidKinds := [.data, .data, .data, .sentinel, .sentinel, .sentinel], laidTests := true, laidLooks := .later }
def FnClashingUptoCardSaid : Prop := Claim7.holds Tryz.pinned (.plain (OpenSpec.upto fnClashingSpec)) fnClashingUptoCard

/-- THE SECOND FORM's CARD OF 'laws.FnExactTxAsk'. -/
def fnExactTxAskUptoCard : Claim7 := { stood := { row := fnExactTxAskUptoRow, standIns := [], harness := (true, "355e57a9ee6ee8b7e91dfccf012d60f0711289dc419db4e93a4e15f9357feab9"), looks := true }, kinds := [], alts := [], laidByText := true, laidKinds := [.data, .data, .data, .sentinel, .sentinel, .sentinel], laidTests := true, laidLooks := .later }
def FnExactTxAskUptoCardSaid : Prop := Claim7.holds Tryz.pinned (.plain (OpenSpec.upto fnExactTxAskSpec)) fnExactTxAskUptoCard
end Rows
end Go.Proofs.YthlfmbbaomdciaaGreatDoor
