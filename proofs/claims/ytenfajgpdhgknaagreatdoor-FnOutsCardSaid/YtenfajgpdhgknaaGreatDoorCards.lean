/-
  DERIVED. GIVEN WITH THE SEED: THE CARDS: each row of YtenfajgpdhgknaaGreatDoorRows.lean that lists a variable, with what it lists TIED to the program's text (the seventh form; the later family's looks); each row that meets fmt, with fmt's text TOLD by the authors' own Lean function (tested against real Go, not proved from fmt's source: count such statements apart). THE CARD IS WHAT COUNTS. Prove the row's statement (the work); the ties are given (YtenfajgpdhgknaaGreatDoorTie.lean); close each card by the builder's one call (the guide's Derived/Test/ToyasCard.lean, 'card_holds'). Laid BY PROGRAM, IN A SANDBOX (cutbox-door.mjs). By AI agents, Wed Nov 11 2026. No macro, syntax, notation, axiom, sorry.
-/
import Derived.Test.YtenfajgpdhgknaaGreatDoorRows
import GoSem.ClaimSeven
namespace Go.Proofs.YtenfajgpdhgknaaGreatDoor
namespace Rows

/-- THE TIED CARD OF 'laws.FnExactTakePipe'. -/
def fnExactTakePipeCard : Claim7 := { stood := { row := fnExactTakePipeRow, standIns := [], harness := (true, "522385367bc9f4f8b75fe83bd1b20301c33dc867aa919761b1e751804b1f4f3c"), looks := true }, kinds := [], alts := [], laidByText := true, laidKinds := [.data, .data, .data, .sentinel, .sentinel, .sentinel], laidTests := true, laidLooks := .later }
def FnExactTakePipeCardSaid : Prop := Claim7.holds Tryz.pinned (.plain (OpenSpec.ofChange fnExactTakePipeSpec)) fnExactTakePipeCard

/-- THE TIED CARD OF 'laws.FnExactCutFile'. -/
def fnExactCutFileCard : Claim7 := { stood := { row := fnExactCutFileRow, standIns := [], harness := (true, "522385367bc9f4f8b75fe83bd1b20301c33dc867aa919761b1e751804b1f4f3c"), looks := true }, kinds := [], alts := [], laidByText := true, laidKinds := [.data, .data, .data, .sentinel, .sentinel, .sentinel], laidTests := true, laidLooks := .later }
def FnExactCutFileCardSaid : Prop := Claim7.holds Tryz.pinned (.plain (OpenSpec.ofChange fnExactCutFileSpec)) fnExactCutFileCard

/-- THE TIED CARD OF 'laws.FnExactWriteFile'. -/
def fnExactWriteFileCard : Claim7 := { stood := { row := fnExactWriteFileRow, standIns := [], harness := (true, "522385367bc9f4f8b75fe83bd1b20301c33dc867aa919761b1e751804b1f4f3c"), looks := true }, kinds := [], alts := [], laidByText := true, laidKinds := [.data, .data, .data, .sentinel, .sentinel, .sentinel], laidTests := true, laidLooks := .later }
def FnExactWriteFileCardSaid : Prop := Claim7.holds Tryz.pinned (.plain (OpenSpec.ofChange fnExactWriteFileSpec)) fnExactWriteFileCard

/-- THE TIED CARD OF 'laws.FnMake'. -/
def fnMakeCard : Claim7 := { stood := { row := fnMakeRow, standIns := [], harness := (true, "522385367bc9f4f8b75fe83bd1b20301c33dc867aa919761b1e751804b1f4f3c"), looks := true }, kinds := [], alts := [], laidByText := true, laidKinds := [.data, .data, .data, .sentinel, .sentinel], laidTests := true, laidLooks := .later }
def FnMakeCardSaid : Prop := Claim7.holds Tryz.pinned (.plain (OpenSpec.ofChange fnMakeSpec)) fnMakeCard

/-- THE TIED CARD OF 'laws.FnLinks'. -/
def fnLinksCard : Claim7 := { stood := { row := fnLinksRow, standIns := [], harness := (true, "522385367bc9f4f8b75fe83bd1b20301c33dc867aa919761b1e751804b1f4f3c"), looks := true }, kinds := [], alts := [], laidByText := true, laidKinds := [.data, .data, .data, .sentinel, .sentinel], laidTests := true, laidLooks := .later }
def FnLinksCardSaid : Prop := Claim7.holds Tryz.pinned (.plain (OpenSpec.ofChange fnLinksSpec)) fnLinksCard

/-- THE TIED CARD OF 'laws.FnRenamed'. -/
def fnRenamedCard : Claim7 := { stood := { row := fnRenamedRow, standIns := [], harness := (true, "522385367bc9f4f8b75fe83bd1b20301c33dc867aa919761b1e751804b1f4f3c"), looks := true }, kinds := [], alts := [], laidByText := true, laidKinds := [.data, .data, .data, .sentinel, .sentinel], laidTests := true, laidLooks := .later }
def FnRenamedCardSaid : Prop := Claim7.holds Tryz.pinned (.plain (OpenSpec.ofChange fnRenamedSpec)) fnRenamedCard

/-- THE TIED CARD OF 'laws.FnPipes'. -/
def fnPipesCard : Claim7 := { stood := { row := fnPipesRow, standIns := [], harness := (true, "522385367bc9f4f8b75fe83bd1b20301c33dc867aa919761b1e751804b1f4f3c"), looks := true }, kinds := [], alts := [], laidByText := true, laidKinds := [.data, .data, .data, .sentinel, .sentinel, .sentinel], laidTests := true, laidLooks := .later }
def FnPipesCardSaid : Prop := Claim7.holds Tryz.pinned (.plain (OpenSpec.ofChange fnPipesSpec)) fnPipesCard

/-- THE TIED CARD OF 'laws.FnProcs'. -/
def fnProcsCard : Claim7 := { stood := { row := fnProcsRow, standIns := [], harness := (true, "522385367bc9f4f8b75fe83bd1b20301c33dc867aa919761b1e751804b1f4f3c"), looks := true }, kinds := [], alts := [], laidByText := true, laidKinds := [.data, .data, .data, .sentinel, .sentinel], laidTests := true, laidLooks := .later }
def FnProcsCardSaid : Prop := Claim7.holds Tryz.pinned (.plain (OpenSpec.ofChange fnProcsSpec)) fnProcsCard

/-- THE TIED CARD OF 'laws.FnSignals'. -/
def fnSignalsCard : Claim7 := { stood := { row := fnSignalsRow, standIns := [], harness := (true, "522385367bc9f4f8b75fe83bd1b20301c33dc867aa919761b1e751804b1f4f3c"), looks := true }, kinds := [], alts := [], laidByText := true, laidKinds := [.data, .data, .data, .sentinel, .sentinel], laidTests := true, laidLooks := .later }
def FnSignalsCardSaid : Prop := Claim7.holds Tryz.pinned (.plain (OpenSpec.ofChange fnSignalsSpec)) fnSignalsCard

/-- THE TIED CARD OF 'laws.FnFileBytes'. -/
def fnFileBytesCard : Claim7 := { stood := { row := fnFileBytesRow, standIns := [], harness := (true, "522385367bc9f4f8b75fe83bd1b20301c33dc867aa919761b1e751804b1f4f3c"), looks := true }, kinds := [], alts := [], laidByText := true, laidKinds := [.data, .data, .data, .sentinel, .sentinel, .sentinel], laidTests := true, laidLooks := .later }
def FnFileBytesCardSaid : Prop := Claim7.holds Tryz.pinned (.plain (OpenSpec.ofChange fnFileBytesSpec)) fnFileBytesCard

/-- THE TIED CARD OF 'laws.FnFiles'. -/
def fnFilesCard : Claim7 := { stood := { row := fnFilesRow, standIns := [], harness := (true, "522385367bc9f4f8b75fe83bd1b20301c33dc867aa919761b1e751804b1f4f3c"), looks := true }, kinds := [], alts := [], laidByText := true, laidKinds := [.data, .data, .data, .sentinel, .sentinel, .sentinel], laidTests := true, laidLooks := .later }
def FnFilesCardSaid : Prop := Claim7.holds Tryz.pinned (.plain (OpenSpec.ofChange fnFilesSpec)) fnFilesCard

/-- THE TIED CARD OF 'laws.FnOuts'. -/
def fnOutsCard : Claim7 := { stood := { row := fnOutsRow, standIns := [], harness := (true, "522385367bc9f4f8b75fe83bd1b20301c33dc867aa919761b1e751804b1f4f3c"), looks := true }, kinds := [], alts := [], laidByText := true, laidKinds := [.data, .data, .data, .sentinel, .sentinel, .sentinel], laidTests := true, laidLooks := .later }
def FnOutsCardSaid : Prop := Claim7.holds Tryz.pinned (.plain (OpenSpec.ofChange fnOutsSpec)) fnOutsCard

/-- THE SECOND FORM's CARD OF 'laws.FnExactTakePipe'. -/
def fnExactTakePipeUptoCard : Claim7 := { stood := { row := fnExactTakePipeUptoRow, standIns := [], harness := (true, "522385367bc9f4f8b75fe83bd1b20301c33dc867aa919761b1e751804b1f4f3c"), looks := true }, kinds := [], alts := [], laidByText := true, laidKinds := [.data, .data, .data, .sentinel, .sentinel, .sentinel], laidTests := true, laidLooks := .later }
def FnExactTakePipeUptoCardSaid : Prop := Claim7.holds Tryz.pinned (.plain (OpenSpec.upto fnExactTakePipeSpec)) fnExactTakePipeUptoCard

/-- THE SECOND FORM's CARD OF 'laws.FnExactCutFile'. -/
def fnExactCutFileUptoCard : Claim7 := { stood := { row := fnExactCutFileUptoRow, standIns := [], harness := (true, "522385367bc9f4f8b75fe83bd1b20301c33dc867aa919761b1e751804b1f4f3c"), looks := true }, kinds := [], alts := [], laidByText := true, laidKinds := [.data, .data, .data, .sentinel, .sentinel, .sentinel], laidTests := true, laidLooks := .later }
def FnExactCutFileUptoCardSaid : Prop := Claim7.holds Tryz.pinned (.plain (OpenSpec.upto fnExactCutFileSpec)) fnExactCutFileUptoCard

/-- THE SECOND FORM's CARD OF 'laws.FnExactWriteFile'. -/
def fnExactWriteFileUptoCard : Claim7 := { stood := { row := fnExactWriteFileUptoRow, standIns := [], harness := (true, "522385367bc9f4f8b75fe83bd1b20301c33dc867aa919761b1e751804b1f4f3c"), looks := true }, kinds := [], alts := [], laidByText := true, laidKinds := [.data, .data, .data, .sentinel, .sentinel, .sentinel], laidTests := true, laidLooks := .later }
def FnExactWriteFileUptoCardSaid : Prop := Claim7.holds Tryz.pinned (.plain (OpenSpec.upto fnExactWriteFileSpec)) fnExactWriteFileUptoCard

/-- THE SECOND FORM's CARD OF 'laws.FnMake'. -/
def fnMakeUptoCard : Claim7 := { stood := { row := fnMakeUptoRow, standIns := [], harness := (true, "522385367bc9f4f8b75fe83bd1b20301c33dc867aa919761b1e751804b1f4f3c"), looks := true }, kinds := [], alts := [], laidByText := true, laidKinds := [.data, .data, .data, .sentinel, .sentinel], laidTests := true, laidLooks := .later }
def FnMakeUptoCardSaid : Prop := Claim7.holds Tryz.pinned (.plain (OpenSpec.upto fnMakeSpec)) fnMakeUptoCard

/-- THE SECOND FORM's CARD OF 'laws.FnLinks'. -/
def fnLinksUptoCard : Claim7 := { stood := { row := fnLinksUptoRow, standIns := [], harness := (true, "522385367bc9f4f8b75fe83bd1b20301c33dc867aa919761b1e751804b1f4f3c"), looks := true }, kinds := [], alts := [], laidByText := true, laidKinds := [.data, .data, .data, .sentinel, .sentinel], laidTests := true, laidLooks := .later }
def FnLinksUptoCardSaid : Prop := Claim7.holds Tryz.pinned (.plain (OpenSpec.upto fnLinksSpec)) fnLinksUptoCard

/-- THE SECOND FORM's CARD OF 'laws.FnRenamed'. -/
def fnRenamedUptoCard : Claim7 := { stood := { row := fnRenamedUptoRow, standIns := [], harness := (true, "522385367bc9f4f8b75fe83bd1b20301c33dc867aa919761b1e751804b1f4f3c"), looks := true }, kinds := [], alts := [], laidByText := true, laidKinds := [.data, .data, .data, .sentinel, .sentinel], laidTests := true, laidLooks := .later }
def FnRenamedUptoCardSaid : Prop := Claim7.holds Tryz.pinned (.plain (OpenSpec.upto fnRenamedSpec)) fnRenamedUptoCard

/-- THE SECOND FORM's CARD OF 'laws.FnPipes'. -/
def fnPipesUptoCard : Claim7 := { stood := { row := fnPipesUptoRow, standIns := [], harness := (true, "522385367bc9f4f8b75fe83bd1b20301c33dc867aa919761b1e751804b1f4f3c"), looks := true }, kinds := [], alts := [], laidByText := true, laidKinds := [.data, .data, .data, .sentinel, .sentinel, .sentinel], laidTests := true, laidLooks := .later }
def FnPipesUptoCardSaid : Prop := Claim7.holds Tryz.pinned (.plain (OpenSpec.upto fnPipesSpec)) fnPipesUptoCard

/-- THE SECOND FORM's CARD OF 'laws.FnProcs'. -/
def fnProcsUptoCard : Claim7 := { stood := { row := fnProcsUptoRow, standIns := [], harness := (true, "522385367bc9f4f8b75fe83bd1b20301c33dc867aa919761b1e751804b1f4f3c"), looks := true }, kinds := [], alts := [], laidByText := true, laidKinds := [.data, .data, .data, .sentinel, .sentinel], laidTests := true, laidLooks := .later }
def FnProcsUptoCardSaid : Prop := Claim7.holds Tryz.pinned (.plain (OpenSpec.upto fnProcsSpec)) fnProcsUptoCard

/-- THE SECOND FORM's CARD OF 'laws.FnSignals'. -/
def fnSignalsUptoCard : Claim7 := { stood := { row := fnSignalsUptoRow, standIns := [], harness := (true, "522385367bc9f4f8b75fe83bd1b20301c33dc867aa919761b1e751804b1f4f3c"), looks := true }, kinds := [], alts := [], laidByText := true, laidKinds := [.data, .data, .data, .sentinel, .sentinel], laidTests := true, laidLooks := .later }
def FnSignalsUptoCardSaid : Prop := Claim7.holds Tryz.pinned (.plain (OpenSpec.upto fnSignalsSpec)) fnSignalsUptoCard

/-- THE SECOND FORM's CARD OF 'laws.FnFileBytes'. -/
def fnFileBytesUptoCard : Claim7 := { stood := { row := fnFileBytesUptoRow, standIns := [], harness := (true, "522385367bc9f4f8b75fe83bd1b20301c33dc867aa919761b1e751804b1f4f3c"), looks := true }, kinds := [], alts := [], laidByText := true, laidKinds := [.data, .data, .data, .sentinel, .sentinel, .sentinel], laidTests := true, laidLooks := .later }
def FnFileBytesUptoCardSaid : Prop := Claim7.holds Tryz.pinned (.plain (OpenSpec.upto fnFileBytesSpec)) fnFileBytesUptoCard

/-- THE SECOND FORM's CARD OF 'laws.FnFiles'. -/
def fnFilesUptoCard : Claim7 := { stood := { row := fnFilesUptoRow, standIns := [], harness := (true, "522385367bc9f4f8b75fe83bd1b20301c33dc867aa919761b1e751804b1f4f3c"), looks := true }, kinds := [], alts := [], laidByText := true, laidKinds := [.data, .data, .data, .sentinel, .sentinel, .sentinel], laidTests := true, laidLooks := .later }
def FnFilesUptoCardSaid : Prop := Claim7.holds Tryz.pinned (.plain (OpenSpec.upto fnFilesSpec)) fnFilesUptoCard

/-- THE SECOND FORM's CARD OF 'laws.FnOuts'. -/
def fnOutsUptoCard : Claim7 := { stood := { row := fnOutsUptoRow, standIns := [], harness := (true, "522385367bc9f4f8b75fe83bd1b20301c33dc867aa919761b1e751804b1f4f3c"), looks := true }, kinds := [], alts := [], laidByText := true, laidKinds := [.data, .data, .data, .sentinel, .sentinel, .sentinel], laidTests := true, laidLooks := .later }
def FnOutsUptoCardSaid : Prop := Claim7.holds Tryz.pinned (.plain (OpenSpec.upto fnOutsSpec)) fnOutsUptoCard
end Rows
end Go.Proofs.YtenfajgpdhgknaaGreatDoor
