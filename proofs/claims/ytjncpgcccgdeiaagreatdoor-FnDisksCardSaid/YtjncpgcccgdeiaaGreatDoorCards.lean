/-
  DERIVED. GIVEN WITH THE SEED: THE CARDS: each row of YtjncpgcccgdeiaaGreatDoorRows.lean that lists a variable, with what it lists TIED to the program's text (the seventh form; the later family's looks); each row that meets fmt, with fmt's text TOLD by the authors' own Lean function (tested against real Go, not proved from fmt's source: count such statements apart). THE CARD IS WHAT COUNTS. Prove the row's statement (the work); the ties are given (YtjncpgcccgdeiaaGreatDoorTie.lean); close each card by the builder's one call (the guide's Derived/Test/ToyasCard.lean, 'card_holds'). Laid BY PROGRAM, IN A SANDBOX (cutbox-door.mjs). By AI agents, Wed Nov 11 2026. No macro, syntax, notation, axiom, sorry.
-/
import Derived.Test.YtjncpgcccgdeiaaGreatDoorRows
import GoSem.ClaimSeven
namespace Go.Proofs.YtjncpgcccgdeiaaGreatDoor
namespace Rows

/-- THE TIED CARD OF 'laws.FnExactTrimmed'. -/
def fnExactTrimmedCard : Claim7 := { stood := { row := fnExactTrimmedRow, standIns := [], harness := (true, "ccc6ca9adfee9b63815ed32949898de3dd9ed7b96fa0ecd57f912736d86219ed"), looks := true }, kinds := [], alts := [], laidByText := true, laidKinds := [.data, .data, .data, .data, .sentinel, .sentinel, .sentinel, .pinned], laidTests := true, laidLooks := .later }
def FnExactTrimmedCardSaid : Prop := Claim7.holds Tryz.pinned (.plain (OpenSpec.ofChange fnExactTrimmedSpec)) fnExactTrimmedCard

/-- THE TIED CARD OF 'laws.FnExactCleaned'. -/
def fnExactCleanedCard : Claim7 := { stood := { row := fnExactCleanedRow, standIns := [], harness := (true, "ccc6ca9adfee9b63815ed32949898de3dd9ed7b96fa0ecd57f912736d86219ed"), looks := true }, kinds := [], alts := [], laidByText := true, laidKinds := [.data, .data, .data, .data, .sentinel, .sentinel, .sentinel, .pinned], laidTests := true, laidLooks := .later }
def FnExactCleanedCardSaid : Prop := Claim7.holds Tryz.pinned (.plain (OpenSpec.ofChange fnExactCleanedSpec)) fnExactCleanedCard

/-- THE TIED CARD OF 'laws.FnExactFoldBegin'. -/
def fnExactFoldBeginCard : Claim7 := { stood := { row := fnExactFoldBeginRow, standIns := [], harness := (true, "ccc6ca9adfee9b63815ed32949898de3dd9ed7b96fa0ecd57f912736d86219ed"), looks := true }, kinds := [], alts := [], laidByText := true, laidKinds := [.data, .data, .data, .data, .sentinel, .sentinel, .sentinel, .pinned], laidTests := true, laidLooks := .later }
def FnExactFoldBeginCardSaid : Prop := Claim7.holds Tryz.pinned (.plain (OpenSpec.ofChange fnExactFoldBeginSpec)) fnExactFoldBeginCard

/-- THE TIED CARD OF 'laws.FnExactFolded'. -/
def fnExactFoldedCard : Claim7 := { stood := { row := fnExactFoldedRow, standIns := [], harness := (true, "ccc6ca9adfee9b63815ed32949898de3dd9ed7b96fa0ecd57f912736d86219ed"), looks := true }, kinds := [], alts := [], laidByText := true, laidKinds := [.data, .data, .data, .data, .sentinel, .sentinel, .sentinel, .pinned], laidTests := true, laidLooks := .later }
def FnExactFoldedCardSaid : Prop := Claim7.holds Tryz.pinned (.plain (OpenSpec.ofChange fnExactFoldedSpec)) fnExactFoldedCard

/-- THE TIED CARD OF 'laws.FnBetween'. -/
def fnBetweenCard : Claim7 := { stood := { row := fnBetweenRow, standIns := [], harness := (true, "ccc6ca9adfee9b63815ed32949898de3dd9ed7b96fa0ecd57f912736d86219ed"), looks := true }, kinds := [], alts := [], laidByText := true, laidKinds := [.data, .data, .data, .data, .sentinel, .sentinel, .sentinel, .pinned], laidTests := true, laidLooks := .later }
def FnBetweenCardSaid : Prop := Claim7.holds Tryz.pinned (.plain (OpenSpec.ofChange fnBetweenSpec)) fnBetweenCard

/-- THE TIED CARD OF 'laws.FnFolds'. -/
def fnFoldsCard : Claim7 := { stood := { row := fnFoldsRow, standIns := [], harness := (true, "ccc6ca9adfee9b63815ed32949898de3dd9ed7b96fa0ecd57f912736d86219ed"), looks := true }, kinds := [], alts := [], laidByText := true, laidKinds := [.data, .data, .data, .data, .sentinel, .sentinel, .sentinel, .pinned], laidTests := true, laidLooks := .later }
def FnFoldsCardSaid : Prop := Claim7.holds Tryz.pinned (.plain (OpenSpec.ofChange fnFoldsSpec)) fnFoldsCard

/-- THE TIED CARD OF 'laws.FnFoldTwice'. -/
def fnFoldTwiceCard : Claim7 := { stood := { row := fnFoldTwiceRow, standIns := [], harness := (true, "ccc6ca9adfee9b63815ed32949898de3dd9ed7b96fa0ecd57f912736d86219ed"), looks := true }, kinds := [], alts := [], laidByText := true, laidKinds := [.data, .data, .data, .data, .sentinel, .sentinel, .sentinel, .pinned], laidTests := true, laidLooks := .later }
def FnFoldTwiceCardSaid : Prop := Claim7.holds Tryz.pinned (.plain (OpenSpec.ofChange fnFoldTwiceSpec)) fnFoldTwiceCard

/-- THE TIED CARD OF 'laws.FnDisks'. -/
def fnDisksCard : Claim7 := { stood := { row := fnDisksRow, standIns := [], harness := (true, "ccc6ca9adfee9b63815ed32949898de3dd9ed7b96fa0ecd57f912736d86219ed"), looks := true }, kinds := [], alts := [], laidByText := true, laidKinds := [.data, .data, .data, .data, .sentinel, .sentinel, .sentinel, .pinned], laidTests := true, laidLooks := .later }
def FnDisksCardSaid : Prop := Claim7.holds Tryz.pinned (.plain (OpenSpec.ofChange fnDisksSpec)) fnDisksCard

/-- THE SECOND FORM's CARD OF 'laws.FnExactTrimmed'. -/
def fnExactTrimmedUptoCard : Claim7 := { stood := { row := fnExactTrimmedUptoRow, standIns := [], harness := (true, "ccc6ca9adfee9b63815ed32949898de3dd9ed7b96fa0ecd57f912736d86219ed"), looks := true }, kinds := [], alts := [], laidByText := true, laidKinds := [.data, .data, .data, .data, .sentinel, .sentinel, .sentinel, .pinned], laidTests := true, laidLooks := .later }
def FnExactTrimmedUptoCardSaid : Prop := Claim7.holds Tryz.pinned (.plain (OpenSpec.upto fnExactTrimmedSpec)) fnExactTrimmedUptoCard

/-- THE SECOND FORM's CARD OF 'laws.FnExactCleaned'. -/
def fnExactCleanedUptoCard : Claim7 := { stood := { row := fnExactCleanedUptoRow, standIns := [], harness := (true, "ccc6ca9adfee9b63815ed32949898de3dd9ed7b96fa0ecd57f912736d86219ed"), looks := true }, kinds := [], alts := [], laidByText := true, laidKinds := [.data, .data, .data, .data, .sentinel, .sentinel, .sentinel, .pinned], laidTests := true, laidLooks := .later }
def FnExactCleanedUptoCardSaid : Prop := Claim7.holds Tryz.pinned (.plain (OpenSpec.upto fnExactCleanedSpec)) fnExactCleanedUptoCard

/-- THE SECOND FORM's CARD OF 'laws.FnExactFoldBegin'. -/
def fnExactFoldBeginUptoCard : Claim7 := { stood := { row := fnExactFoldBeginUptoRow, standIns := [], harness := (true, "ccc6ca9adfee9b63815ed32949898de3dd9ed7b96fa0ecd57f912736d86219ed"), looks := true }, kinds := [], alts := [], laidByText := true, laidKinds := [.data, .data, .data, .data, .sentinel, .sentinel, .sentinel, .pinned], laidTests := true, laidLooks := .later }
def FnExactFoldBeginUptoCardSaid : Prop := Claim7.holds Tryz.pinned (.plain (OpenSpec.upto fnExactFoldBeginSpec)) fnExactFoldBeginUptoCard

/-- THE SECOND FORM's CARD OF 'laws.FnExactFolded'. -/
def fnExactFoldedUptoCard : Claim7 := { stood := { row := fnExactFoldedUptoRow, standIns := [], harness := (true, "ccc6ca9adfee9b63815ed32949898de3dd9ed7b96fa0ecd57f912736d86219ed"), looks := true }, kinds := [], alts := [], laidByText := true, laidKinds := [.data, .data, .data, .data, .sentinel, .sentinel, .sentinel, .pinned], laidTests := true, laidLooks := .later }
def FnExactFoldedUptoCardSaid : Prop := Claim7.holds Tryz.pinned (.plain (OpenSpec.upto fnExactFoldedSpec)) fnExactFoldedUptoCard

/-- THE SECOND FORM's CARD OF 'laws.FnBetween'. -/
def fnBetweenUptoCard : Claim7 := { stood := { row := fnBetweenUptoRow, standIns := [], harness := (true, "ccc6ca9adfee9b63815ed32949898de3dd9ed7b96fa0ecd57f912736d86219ed"), looks := true }, kinds := [], alts := [], laidByText := true, laidKinds := [.data, .data, .data, .data, .sentinel, .sentinel, .sentinel, .pinned], laidTests := true, laidLooks := .later }
def FnBetweenUptoCardSaid : Prop := Claim7.holds Tryz.pinned (.plain (OpenSpec.upto fnBetweenSpec)) fnBetweenUptoCard

/-- THE SECOND FORM's CARD OF 'laws.FnFolds'. -/
def fnFoldsUptoCard : Claim7 := { stood := { row := fnFoldsUptoRow, standIns := [], harness := (true, "ccc6ca9adfee9b63815ed32949898de3dd9ed7b96fa0ecd57f912736d86219ed"), looks := true }, kinds := [], alts := [], laidByText := true, laidKinds := [.data, .data, .data, .data, .sentinel, .sentinel, .sentinel, .pinned], laidTests := true, laidLooks := .later }
def FnFoldsUptoCardSaid : Prop := Claim7.holds Tryz.pinned (.plain (OpenSpec.upto fnFoldsSpec)) fnFoldsUptoCard

/-- THE SECOND FORM's CARD OF 'laws.FnFoldTwice'. -/
def fnFoldTwiceUptoCard : Claim7 := { stood := { row := fnFoldTwiceUptoRow, standIns := [], harness := (true, "ccc6ca9adfee9b63815ed32949898de3dd9ed7b96fa0ecd57f912736d86219ed"), looks := true }, kinds := [], alts := [], laidByText := true, laidKinds := [.data, .data, .data, .data, .sentinel, .sentinel, .sentinel, .pinned], laidTests := true, laidLooks := .later }
def FnFoldTwiceUptoCardSaid : Prop := Claim7.holds Tryz.pinned (.plain (OpenSpec.upto fnFoldTwiceSpec)) fnFoldTwiceUptoCard

/-- THE SECOND FORM's CARD OF 'laws.FnDisks'. -/
def fnDisksUptoCard : Claim7 := { stood := { row := fnDisksUptoRow, standIns := [], harness := (true, "ccc6ca9adfee9b63815ed32949898de3dd9ed7b96fa0ecd57f912736d86219ed"), looks := true }, kinds := [], alts := [], laidByText := true, laidKinds := [.data, .data, .data, .data, .sentinel, .sentinel, .sentinel, .pinned], laidTests := true, laidLooks := .later }
def FnDisksUptoCardSaid : Prop := Claim7.holds Tryz.pinned (.plain (OpenSpec.upto fnDisksSpec)) fnDisksUptoCard
end Rows
end Go.Proofs.YtjncpgcccgdeiaaGreatDoor
