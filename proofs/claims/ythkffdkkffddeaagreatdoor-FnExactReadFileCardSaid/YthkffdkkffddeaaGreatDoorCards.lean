/-
  DERIVED. GIVEN WITH THE SEED: THE CARDS: each row of YthkffdkkffddeaaGreatDoorRows.lean that lists a variable, with what it lists TIED to the program's text (the seventh form; the later family's looks); each row that meets fmt, with fmt's text TOLD by the authors' own Lean function (tested against real Go, not proved from fmt's source: count such statements apart). THE CARD IS WHAT COUNTS. Prove the row's statement (the work); the ties are given (YthkffdkkffddeaaGreatDoorTie.lean); close each card by the builder's one call (the guide's Derived/Test/ToyasCard.lean, 'card_holds'). Laid BY PROGRAM, IN A SANDBOX (cutbox-door.mjs). By AI agents, Wed Nov 11 2026. No macro, syntax, notation, axiom, sorry.
-/
import Derived.Test.YthkffdkkffddeaaGreatDoorRows
import GoSem.ClaimSeven
namespace Go.Proofs.YthkffdkkffddeaaGreatDoor
namespace Rows

/-- THE TIED CARD OF 'laws.FnExactTakeSignal'. -/
def fnExactTakeSignalCard : Claim7 := { stood := { row := fnExactTakeSignalRow, standIns := [], harness := (true, "14a30bf5108e287d8f71ec53b50f057cced785c526a8e961198c6ae8995d1a57"), looks := true }, kinds := [], alts := [], laidByText := true, laidKinds := [.data, .data, .data, .sentinel, .sentinel], laidTests := true, laidLooks := .later }
def FnExactTakeSignalCardSaid : Prop := Claim7.holds Tryz.pinned (.plain (OpenSpec.ofChange fnExactTakeSignalSpec)) fnExactTakeSignalCard

/-- THE TIED CARD OF 'laws.FnExactEndProc'. -/
def fnExactEndProcCard : Claim7 := { stood := { row := fnExactEndProcRow, standIns := [], harness := (true, "14a30bf5108e287d8f71ec53b50f057cced785c526a8e961198c6ae8995d1a57"), looks := true }, kinds := [], alts := [], laidByText := true, laidKinds := [.data, .data, .data, .sentinel, .sentinel], laidTests := true, laidLooks := .later }
def FnExactEndProcCardSaid : Prop := Claim7.holds Tryz.pinned (.plain (OpenSpec.ofChange fnExactEndProcSpec)) fnExactEndProcCard

/-- THE TIED CARD OF 'laws.FnExactMakePipe'. -/
def fnExactMakePipeCard : Claim7 := { stood := { row := fnExactMakePipeRow, standIns := [], harness := (true, "14a30bf5108e287d8f71ec53b50f057cced785c526a8e961198c6ae8995d1a57"), looks := true }, kinds := [], alts := [], laidByText := true, laidKinds := [.data, .data, .data, .sentinel, .sentinel], laidTests := true, laidLooks := .later }
def FnExactMakePipeCardSaid : Prop := Claim7.holds Tryz.pinned (.plain (OpenSpec.ofChange fnExactMakePipeSpec)) fnExactMakePipeCard

/-- THE TIED CARD OF 'laws.FnExactSpawnProc'. -/
def fnExactSpawnProcCard : Claim7 := { stood := { row := fnExactSpawnProcRow, standIns := [], harness := (true, "14a30bf5108e287d8f71ec53b50f057cced785c526a8e961198c6ae8995d1a57"), looks := true }, kinds := [], alts := [], laidByText := true, laidKinds := [.data, .data, .data, .sentinel, .sentinel], laidTests := true, laidLooks := .later }
def FnExactSpawnProcCardSaid : Prop := Claim7.holds Tryz.pinned (.plain (OpenSpec.ofChange fnExactSpawnProcSpec)) fnExactSpawnProcCard

/-- THE TIED CARD OF 'laws.FnExactReadFile'. -/
def fnExactReadFileCard : Claim7 := { stood := { row := fnExactReadFileRow, standIns := [], harness := (true, "14a30bf5108e287d8f71ec53b50f057cced785c526a8e961198c6ae8995d1a57"), looks := true }, kinds := [], alts := [], laidByText := true, laidKinds := [.data, .data, .data, .sentinel, .sentinel, .sentinel], laidTests := true, laidLooks := .later }
def FnExactReadFileCardSaid : Prop := Claim7.holds Tryz.pinned (.plain (OpenSpec.ofChange fnExactReadFileSpec)) fnExactReadFileCard

/-- THE TIED CARD OF 'laws.FnExactSendSignal'. -/
def fnExactSendSignalCard : Claim7 := { stood := { row := fnExactSendSignalRow, standIns := [], harness := (true, "14a30bf5108e287d8f71ec53b50f057cced785c526a8e961198c6ae8995d1a57"), looks := true }, kinds := [], alts := [], laidByText := true, laidKinds := [.data, .data, .data, .sentinel, .sentinel], laidTests := true, laidLooks := .later }
def FnExactSendSignalCardSaid : Prop := Claim7.holds Tryz.pinned (.plain (OpenSpec.ofChange fnExactSendSignalSpec)) fnExactSendSignalCard

/-- THE TIED CARD OF 'laws.FnExactTextOf'. -/
def fnExactTextOfCard : Claim7 := { stood := { row := fnExactTextOfRow, standIns := [], harness := (true, "14a30bf5108e287d8f71ec53b50f057cced785c526a8e961198c6ae8995d1a57"), looks := true }, kinds := [], alts := [], laidByText := true, laidKinds := [.data, .data, .data, .sentinel, .sentinel, .sentinel], laidTests := true, laidLooks := .later }
def FnExactTextOfCardSaid : Prop := Claim7.holds Tryz.pinned (.plain (OpenSpec.ofChange fnExactTextOfSpec)) fnExactTextOfCard

/-- THE TIED CARD OF 'laws.FnExactPutOut'. -/
def fnExactPutOutCard : Claim7 := { stood := { row := fnExactPutOutRow, standIns := [], harness := (true, "14a30bf5108e287d8f71ec53b50f057cced785c526a8e961198c6ae8995d1a57"), looks := true }, kinds := [], alts := [], laidByText := true, laidKinds := [.data, .data, .data, .sentinel, .sentinel], laidTests := true, laidLooks := .later }
def FnExactPutOutCardSaid : Prop := Claim7.holds Tryz.pinned (.plain (OpenSpec.ofChange fnExactPutOutSpec)) fnExactPutOutCard

/-- THE TIED CARD OF 'laws.FnExactReapProc'. -/
def fnExactReapProcCard : Claim7 := { stood := { row := fnExactReapProcRow, standIns := [], harness := (true, "14a30bf5108e287d8f71ec53b50f057cced785c526a8e961198c6ae8995d1a57"), looks := true }, kinds := [], alts := [], laidByText := true, laidKinds := [.data, .data, .data, .sentinel, .sentinel], laidTests := true, laidLooks := .later }
def FnExactReapProcCardSaid : Prop := Claim7.holds Tryz.pinned (.plain (OpenSpec.ofChange fnExactReapProcSpec)) fnExactReapProcCard

/-- THE TIED CARD OF 'laws.FnExactLinkName'. -/
def fnExactLinkNameCard : Claim7 := { stood := { row := fnExactLinkNameRow, standIns := [], harness := (true, "14a30bf5108e287d8f71ec53b50f057cced785c526a8e961198c6ae8995d1a57"), looks := true }, kinds := [], alts := [], laidByText := true, laidKinds := [.data, .data, .data, .sentinel, .sentinel], laidTests := true, laidLooks := .later }
def FnExactLinkNameCardSaid : Prop := Claim7.holds Tryz.pinned (.plain (OpenSpec.ofChange fnExactLinkNameSpec)) fnExactLinkNameCard

/-- THE TIED CARD OF 'laws.FnExactMakeName'. -/
def fnExactMakeNameCard : Claim7 := { stood := { row := fnExactMakeNameRow, standIns := [], harness := (true, "14a30bf5108e287d8f71ec53b50f057cced785c526a8e961198c6ae8995d1a57"), looks := true }, kinds := [], alts := [], laidByText := true, laidKinds := [.data, .data, .data, .sentinel, .sentinel], laidTests := true, laidLooks := .later }
def FnExactMakeNameCardSaid : Prop := Claim7.holds Tryz.pinned (.plain (OpenSpec.ofChange fnExactMakeNameSpec)) fnExactMakeNameCard

/-- THE TIED CARD OF 'laws.FnExactPutPipe'. -/
def fnExactPutPipeCard : Claim7 := { stood := { row := fnExactPutPipeRow, standIns := [], harness := (true, "14a30bf5108e287d8f71ec53b50f057cced785c526a8e961198c6ae8995d1a57"), looks := true }, kinds := [], alts := [], laidByText := true, laidKinds := [.data, .data, .data, .sentinel, .sentinel], laidTests := true, laidLooks := .later }
def FnExactPutPipeCardSaid : Prop := Claim7.holds Tryz.pinned (.plain (OpenSpec.ofChange fnExactPutPipeSpec)) fnExactPutPipeCard

/-- THE SECOND FORM's CARD OF 'laws.FnExactTakeSignal'. -/
def fnExactTakeSignalUptoCard : Claim7 := { stood := { row := fnExactTakeSignalUptoRow, standIns := [], harness := (true, "14a30bf5108e287d8f71ec53b50f057cced785c526a8e961198c6ae8995d1a57"), looks := true }, kinds := [], alts := [], laidByText := true, laidKinds := [.data, .data, .data, .sentinel, .sentinel], laidTests := true, laidLooks := .later }
def FnExactTakeSignalUptoCardSaid : Prop := Claim7.holds Tryz.pinned (.plain (OpenSpec.upto fnExactTakeSignalSpec)) fnExactTakeSignalUptoCard

/-- THE SECOND FORM's CARD OF 'laws.FnExactEndProc'. -/
def fnExactEndProcUptoCard : Claim7 := { stood := { row := fnExactEndProcUptoRow, standIns := [], harness := (true, "14a30bf5108e287d8f71ec53b50f057cced785c526a8e961198c6ae8995d1a57"), looks := true }, kinds := [], alts := [], laidByText := true, laidKinds := [.data, .data, .data, .sentinel, .sentinel], laidTests := true, laidLooks := .later }
def FnExactEndProcUptoCardSaid : Prop := Claim7.holds Tryz.pinned (.plain (OpenSpec.upto fnExactEndProcSpec)) fnExactEndProcUptoCard

/-- THE SECOND FORM's CARD OF 'laws.FnExactMakePipe'. -/
def fnExactMakePipeUptoCard : Claim7 := { stood := { row := fnExactMakePipeUptoRow, standIns := [], harness := (true, "14a30bf5108e287d8f71ec53b50f057cced785c526a8e961198c6ae8995d1a57"), looks := true }, kinds := [], alts := [], laidByText := true, laidKinds := [.data, .data, .data, .sentinel, .sentinel], laidTests := true, laidLooks := .later }
def FnExactMakePipeUptoCardSaid : Prop := Claim7.holds Tryz.pinned (.plain (OpenSpec.upto fnExactMakePipeSpec)) fnExactMakePipeUptoCard

/-- THE SECOND FORM's CARD OF 'laws.FnExactSpawnProc'. -/
def fnExactSpawnProcUptoCard : Claim7 := { stood := { row := fnExactSpawnProcUptoRow, standIns := [], harness := (true, "14a30bf5108e287d8f71ec53b50f057cced785c526a8e961198c6ae8995d1a57"), looks := true }, kinds := [], alts := [], laidByText := true, laidKinds := [.data, .data, .data, .sentinel, .sentinel], laidTests := true, laidLooks := .later }
def FnExactSpawnProcUptoCardSaid : Prop := Claim7.holds Tryz.pinned (.plain (OpenSpec.upto fnExactSpawnProcSpec)) fnExactSpawnProcUptoCard

/-- THE SECOND FORM's CARD OF 'laws.FnExactReadFile'. -/
def fnExactReadFileUptoCard : Claim7 := { stood := { row := fnExactReadFileUptoRow, standIns := [], harness := (true, "14a30bf5108e287d8f71ec53b50f057cced785c526a8e961198c6ae8995d1a57"), looks := true }, kinds := [], alts := [], laidByText := true, laidKinds := [.data, .data, .data, .sentinel, .sentinel, .sentinel], laidTests := true, laidLooks := .later }
def FnExactReadFileUptoCardSaid : Prop := Claim7.holds Tryz.pinned (.plain (OpenSpec.upto fnExactReadFileSpec)) fnExactReadFileUptoCard

/-- THE SECOND FORM's CARD OF 'laws.FnExactSendSignal'. -/
def fnExactSendSignalUptoCard : Claim7 := { stood := { row := fnExactSendSignalUptoRow, standIns := [], harness := (true, "14a30bf5108e287d8f71ec53b50f057cced785c526a8e961198c6ae8995d1a57"), looks := true }, kinds := [], alts := [], laidByText := true, laidKinds := [.data, .data, .data, .sentinel, .sentinel], laidTests := true, laidLooks := .later }
def FnExactSendSignalUptoCardSaid : Prop := Claim7.holds Tryz.pinned (.plain (OpenSpec.upto fnExactSendSignalSpec)) fnExactSendSignalUptoCard

/-- THE SECOND FORM's CARD OF 'laws.FnExactTextOf'. -/
def fnExactTextOfUptoCard : Claim7 := { stood := { row := fnExactTextOfUptoRow, standIns := [], harness := (true, "14a30bf5108e287d8f71ec53b50f057cced785c526a8e961198c6ae8995d1a57"), looks := true }, kinds := [], alts := [], laidByText := true, laidKinds := [.data, .data, .data, .sentinel, .sentinel, .sentinel], laidTests := true, laidLooks := .later }
def FnExactTextOfUptoCardSaid : Prop := Claim7.holds Tryz.pinned (.plain (OpenSpec.upto fnExactTextOfSpec)) fnExactTextOfUptoCard

/-- THE SECOND FORM's CARD OF 'laws.FnExactPutOut'. -/
def fnExactPutOutUptoCard : Claim7 := { stood := { row := fnExactPutOutUptoRow, standIns := [], harness := (true, "14a30bf5108e287d8f71ec53b50f057cced785c526a8e961198c6ae8995d1a57"), looks := true }, kinds := [], alts := [], laidByText := true, laidKinds := [.data, .data, .data, .sentinel, .sentinel], laidTests := true, laidLooks := .later }
def FnExactPutOutUptoCardSaid : Prop := Claim7.holds Tryz.pinned (.plain (OpenSpec.upto fnExactPutOutSpec)) fnExactPutOutUptoCard

/-- THE SECOND FORM's CARD OF 'laws.FnExactReapProc'. -/
def fnExactReapProcUptoCard : Claim7 := { stood := { row := fnExactReapProcUptoRow, standIns := [], harness := (true, "14a30bf5108e287d8f71ec53b50f057cced785c526a8e961198c6ae8995d1a57"), looks := true }, kinds := [], alts := [], laidByText := true, laidKinds := [.data, .data, .data, .sentinel, .sentinel], laidTests := true, laidLooks := .later }
def FnExactReapProcUptoCardSaid : Prop := Claim7.holds Tryz.pinned (.plain (OpenSpec.upto fnExactReapProcSpec)) fnExactReapProcUptoCard

/-- THE SECOND FORM's CARD OF 'laws.FnExactLinkName'. -/
def fnExactLinkNameUptoCard : Claim7 := { stood := { row := fnExactLinkNameUptoRow, standIns := [], harness := (true, "14a30bf5108e287d8f71ec53b50f057cced785c526a8e961198c6ae8995d1a57"), looks := true }, kinds := [], alts := [], laidByText := true, laidKinds := [.data, .data, .data, .sentinel, .sentinel], laidTests := true, laidLooks := .later }
def FnExactLinkNameUptoCardSaid : Prop := Claim7.holds Tryz.pinned (.plain (OpenSpec.upto fnExactLinkNameSpec)) fnExactLinkNameUptoCard

/-- THE SECOND FORM's CARD OF 'laws.FnExactMakeName'. -/
def fnExactMakeNameUptoCard : Claim7 := { stood := { row := fnExactMakeNameUptoRow, standIns := [], harness := (true, "14a30bf5108e287d8f71ec53b50f057cced785c526a8e961198c6ae8995d1a57"), looks := true }, kinds := [], alts := [], laidByText := true, laidKinds := [.data, .data, .data, .sentinel, .sentinel], laidTests := true, laidLooks := .later }
def FnExactMakeNameUptoCardSaid : Prop := Claim7.holds Tryz.pinned (.plain (OpenSpec.upto fnExactMakeNameSpec)) fnExactMakeNameUptoCard

/-- THE SECOND FORM's CARD OF 'laws.FnExactPutPipe'. -/
def fnExactPutPipeUptoCard : Claim7 := { stood := { row := fnExactPutPipeUptoRow, standIns := [], harness := (true, "14a30bf5108e287d8f71ec53b50f057cced785c526a8e961198c6ae8995d1a57"), looks := true }, kinds := [], alts := [], laidByText := true, laidKinds := [.data, .data, .data, .sentinel, .sentinel], laidTests := true, laidLooks := .later }
def FnExactPutPipeUptoCardSaid : Prop := Claim7.holds Tryz.pinned (.plain (OpenSpec.upto fnExactPutPipeSpec)) fnExactPutPipeUptoCard
end Rows
end Go.Proofs.YthkffdkkffddeaaGreatDoor
