/-
  DERIVED. GIVEN WITH THE SEED: THE CARDS: each row of YtkbaelhcijibiaaDoorRows.lean that lists a variable, with what it lists TIED to the program's text (the seventh form; the later family's looks); each row that meets fmt, with fmt's text TOLD by the authors' own Lean function (tested against real Go, not proved from fmt's source: count such statements apart). THE CARD IS WHAT COUNTS. Prove the row's statement (the work); the ties are given (YtkbaelhcijibiaaDoorTie.lean); close each card by the builder's one call (the guide's Derived/Test/ToyasCard.lean, 'card_holds'). Laid BY PROGRAM, IN A SANDBOX (cutbox-door.mjs). By AI agents, Wed Nov 11 2026. No macro, syntax, notation, axiom, sorry.
-/
import Derived.Test.YtkbaelhcijibiaaDoorRows
import GoSem.ClaimSeven
namespace Go.Proofs.YtkbaelhcijibiaaDoor
namespace Rows

/-- THE TIED CARD OF 'sleuthlaw15.Records'. -/
def recordsCard : Claim7 := { stood := { row := recordsRow, standIns := [], harness := (true, "03e07eafa6b384bd5f92657f450b34355766ce8caa26b8bf8fc20d4b65e5e2d4"), looks := true }, kinds := [], alts := [], laidByText := true, laidKinds := [.data, .data, .data, .sentinel, .sentinel], laidTests := true, laidLooks := .later }
def RecordsCardSaid : Prop := Claim7.holds Tryd.pinned (.plain (OpenSpec.ofChange recordsSpec)) recordsCard

/-- THE TIED CARD OF 'sleuthlaw15.RecordForms'. -/
def recordFormsCard : Claim7 := { stood := { row := recordFormsRow, standIns := [], harness := (true, "03e07eafa6b384bd5f92657f450b34355766ce8caa26b8bf8fc20d4b65e5e2d4"), looks := true }, kinds := [], alts := [], laidByText := true, laidKinds := [.data, .data, .data, .sentinel, .sentinel], laidTests := true, laidLooks := .later }
def RecordFormsCardSaid : Prop := Claim7.holds Tryd.pinned (.plain (OpenSpec.ofChange recordFormsSpec)) recordFormsCard

/-- THE TIED CARD OF 'sleuthlaw15.RecordUnlike'. -/
def recordUnlikeCard : Claim7 := { stood := { row := recordUnlikeRow, standIns := [], harness := (true, "03e07eafa6b384bd5f92657f450b34355766ce8caa26b8bf8fc20d4b65e5e2d4"), looks := true }, kinds := [], alts := [], laidByText := true, laidKinds := [.data, .data, .data, .sentinel, .sentinel], laidTests := true, laidLooks := .later }
def RecordUnlikeCardSaid : Prop := Claim7.holds Tryd.pinned (.plain (OpenSpec.ofChange recordUnlikeSpec)) recordUnlikeCard

/-- THE TIED CARD OF 'sleuthlaw15.RecordSizes'. -/
def recordSizesCard : Claim7 := { stood := { row := recordSizesRow, standIns := [], harness := (true, "03e07eafa6b384bd5f92657f450b34355766ce8caa26b8bf8fc20d4b65e5e2d4"), looks := true }, kinds := [], alts := [], laidByText := true, laidKinds := [.data, .data, .data, .sentinel, .sentinel], laidTests := true, laidLooks := .later }
def RecordSizesCardSaid : Prop := Claim7.holds Tryd.pinned (.plain (OpenSpec.ofChange recordSizesSpec)) recordSizesCard

/-- THE TIED CARD OF 'sleuthlaw13.TreeSums'. -/
def treeSumsCard : Claim7 := { stood := { row := treeSumsRow, standIns := [], harness := (true, "03e07eafa6b384bd5f92657f450b34355766ce8caa26b8bf8fc20d4b65e5e2d4"), looks := true }, kinds := [], alts := [], laidByText := true, laidKinds := [.data, .data, .data, .sentinel, .sentinel], laidTests := true, laidLooks := .later }
def TreeSumsCardSaid : Prop := Claim7.holds Tryd.pinned (.plain (OpenSpec.ofChange treeSumsSpec)) treeSumsCard

/-- THE TIED CARD OF 'sleuthlaw13.TreeCut'. -/
def treeCutCard : Claim7 := { stood := { row := treeCutRow, standIns := [], harness := (true, "03e07eafa6b384bd5f92657f450b34355766ce8caa26b8bf8fc20d4b65e5e2d4"), looks := true }, kinds := [], alts := [], laidByText := true, laidKinds := [.data, .data, .data, .sentinel, .sentinel], laidTests := true, laidLooks := .later }
def TreeCutCardSaid : Prop := Claim7.holds Tryd.pinned (.plain (OpenSpec.ofChange treeCutSpec)) treeCutCard

/-- THE TIED CARD OF 'sleuthlaw18.Tops'. -/
def topsCard : Claim7 := { stood := { row := topsRow, standIns := [], harness := (true, "03e07eafa6b384bd5f92657f450b34355766ce8caa26b8bf8fc20d4b65e5e2d4"), looks := true }, kinds := [], alts := [], laidByText := true, laidKinds := [.data, .data, .data, .sentinel, .sentinel], laidTests := true, laidLooks := .later }
def TopsCardSaid : Prop := Claim7.holds Tryd.pinned (.plain (OpenSpec.ofChange topsSpec)) topsCard

/-- THE TIED CARD OF 'sleuthlaw17.FileCut'. -/
def fileCutCard : Claim7 := { stood := { row := fileCutRow, standIns := [], harness := (true, "03e07eafa6b384bd5f92657f450b34355766ce8caa26b8bf8fc20d4b65e5e2d4"), looks := true }, kinds := [], alts := [], laidByText := true, laidKinds := [.data, .data, .data, .sentinel, .sentinel], laidTests := true, laidLooks := .later }
def FileCutCardSaid : Prop := Claim7.holds Tryd.pinned (.plain (OpenSpec.ofChange fileCutSpec)) fileCutCard

/-- THE TIED CARD OF 'sleuthlaw17.FileForms'. -/
def fileFormsCard : Claim7 := { stood := { row := fileFormsRow, standIns := [], harness := (true, "03e07eafa6b384bd5f92657f450b34355766ce8caa26b8bf8fc20d4b65e5e2d4"), looks := true }, kinds := [], alts := [], laidByText := true, laidKinds := [.data, .data, .data, .sentinel, .sentinel], laidTests := true, laidLooks := .later }
def FileFormsCardSaid : Prop := Claim7.holds Tryd.pinned (.plain (OpenSpec.ofChange fileFormsSpec)) fileFormsCard

/-- THE TIED CARD OF 'sleuthlaw17.FileMay'. -/
def fileMayCard : Claim7 := { stood := { row := fileMayRow, standIns := [], harness := (true, "03e07eafa6b384bd5f92657f450b34355766ce8caa26b8bf8fc20d4b65e5e2d4"), looks := true }, kinds := [], alts := [], laidByText := true, laidKinds := [.data, .data, .data, .sentinel, .sentinel], laidTests := true, laidLooks := .later }
def FileMayCardSaid : Prop := Claim7.holds Tryd.pinned (.plain (OpenSpec.ofChange fileMaySpec)) fileMayCard

/-- THE TIED CARD OF 'sleuthlaw17.FileTwo'. -/
def fileTwoCard : Claim7 := { stood := { row := fileTwoRow, standIns := [], harness := (true, "03e07eafa6b384bd5f92657f450b34355766ce8caa26b8bf8fc20d4b65e5e2d4"), looks := true }, kinds := [], alts := [], laidByText := true, laidKinds := [.data, .data, .data, .sentinel, .sentinel], laidTests := true, laidLooks := .later }
def FileTwoCardSaid : Prop := Claim7.holds Tryd.pinned (.plain (OpenSpec.ofChange fileTwoSpec)) fileTwoCard

/-- THE SECOND FORM's CARD OF 'sleuthlaw15.Records'. -/
def recordsUptoCard : Claim7 := { stood := { row := recordsUptoRow, standIns := [], harness := (true, "03e07eafa6b384bd5f92657f450b34355766ce8caa26b8bf8fc20d4b65e5e2d4"), looks := true }, kinds := [], alts := [], laidByText := true, laidKinds := [.data, .data, .data, .sentinel, .sentinel], laidTests := true, laidLooks := .later }
def RecordsUptoCardSaid : Prop := Claim7.holds Tryd.pinned (.plain (OpenSpec.upto recordsSpec)) recordsUptoCard

/-- THE SECOND FORM's CARD OF 'sleuthlaw15.RecordForms'. -/
def recordFormsUptoCard : Claim7 := { stood := { row := recordFormsUptoRow, standIns := [], harness := (true, "03e07eafa6b384bd5f92657f450b34355766ce8caa26b8bf8fc20d4b65e5e2d4"), looks := true }, kinds := [], alts := [], laidByText := true, laidKinds := [.data, .data, .data, .sentinel, .sentinel], laidTests := true, laidLooks := .later }
def RecordFormsUptoCardSaid : Prop := Claim7.holds Tryd.pinned (.plain (OpenSpec.upto recordFormsSpec)) recordFormsUptoCard

/-- THE SECOND FORM's CARD OF 'sleuthlaw15.RecordUnlike'. -/
def recordUnlikeUptoCard : Claim7 := { stood := { row := recordUnlikeUptoRow, standIns := [], harness := (true, "03e07eafa6b384bd5f92657f450b34355766ce8caa26b8bf8fc20d4b65e5e2d4"), looks := true }, kinds := [], alts := [], laidByText := true, laidKinds := [.data, .data, .data, .sentinel, .sentinel], laidTests := true, laidLooks := .later }
def RecordUnlikeUptoCardSaid : Prop := Claim7.holds Tryd.pinned (.plain (OpenSpec.upto recordUnlikeSpec)) recordUnlikeUptoCard

/-- THE SECOND FORM's CARD OF 'sleuthlaw15.RecordSizes'. -/
def recordSizesUptoCard : Claim7 := { stood := { row := recordSizesUptoRow, standIns := [], harness := (true, "03e07eafa6b384bd5f92657f450b34355766ce8caa26b8bf8fc20d4b65e5e2d4"), looks := true }, kinds := [], alts := [], laidByText := true, laidKinds := [.data, .data, .data, .sentinel, .sentinel], laidTests := true, laidLooks := .later }
def RecordSizesUptoCardSaid : Prop := Claim7.holds Tryd.pinned (.plain (OpenSpec.upto recordSizesSpec)) recordSizesUptoCard

/-- THE SECOND FORM's CARD OF 'sleuthlaw13.TreeSums'. -/
def treeSumsUptoCard : Claim7 := { stood := { row := treeSumsUptoRow, standIns := [], harness := (true, "03e07eafa6b384bd5f92657f450b34355766ce8caa26b8bf8fc20d4b65e5e2d4"), looks := true }, kinds := [], alts := [], laidByText := true, laidKinds := [.data, .data, .data, .sentinel, .sentinel], laidTests := true, laidLooks := .later }
def TreeSumsUptoCardSaid : Prop := Claim7.holds Tryd.pinned (.plain (OpenSpec.upto treeSumsSpec)) treeSumsUptoCard

/-- THE SECOND FORM's CARD OF 'sleuthlaw13.TreeCut'. -/
def treeCutUptoCard : Claim7 := { stood := { row := treeCutUptoRow, standIns := [], harness := (true, "03e07eafa6b384bd5f92657f450b34355766ce8caa26b8bf8fc20d4b65e5e2d4"), looks := true }, kinds := [], alts := [], laidByText := true, laidKinds := [.data, .data, .data, .sentinel, .sentinel], laidTests := true, laidLooks := .later }
def TreeCutUptoCardSaid : Prop := Claim7.holds Tryd.pinned (.plain (OpenSpec.upto treeCutSpec)) treeCutUptoCard

/-- THE SECOND FORM's CARD OF 'sleuthlaw18.Tops'. -/
def topsUptoCard : Claim7 := { stood := { row := topsUptoRow, standIns := [], harness := (true, "03e07eafa6b384bd5f92657f450b34355766ce8caa26b8bf8fc20d4b65e5e2d4"), looks := true }, kinds := [], alts := [], laidByText := true, laidKinds := [.data, .data, .data, .sentinel, .sentinel], laidTests := true, laidLooks := .later }
def TopsUptoCardSaid : Prop := Claim7.holds Tryd.pinned (.plain (OpenSpec.upto topsSpec)) topsUptoCard

/-- THE SECOND FORM's CARD OF 'sleuthlaw17.FileCut'. -/
def fileCutUptoCard : Claim7 := { stood := { row := fileCutUptoRow, standIns := [], harness := (true, "03e07eafa6b384bd5f92657f450b34355766ce8caa26b8bf8fc20d4b65e5e2d4"), looks := true }, kinds := [], alts := [], laidByText := true, laidKinds := [.data, .data, .data, .sentinel, .sentinel], laidTests := true, laidLooks := .later }
def FileCutUptoCardSaid : Prop := Claim7.holds Tryd.pinned (.plain (OpenSpec.upto fileCutSpec)) fileCutUptoCard

/-- THE SECOND FORM's CARD OF 'sleuthlaw17.FileForms'. -/
def fileFormsUptoCard : Claim7 := { stood := { row := fileFormsUptoRow, standIns := [], harness := (true, "03e07eafa6b384bd5f92657f450b34355766ce8caa26b8bf8fc20d4b65e5e2d4"), looks := true }, kinds := [], alts := [], laidByText := true, laidKinds := [.data, .data, .data, .sentinel, .sentinel], laidTests := true, laidLooks := .later }
def FileFormsUptoCardSaid : Prop := Claim7.holds Tryd.pinned (.plain (OpenSpec.upto fileFormsSpec)) fileFormsUptoCard

/-- THE SECOND FORM's CARD OF 'sleuthlaw17.FileMay'. -/
def fileMayUptoCard : Claim7 := { stood := { row := fileMayUptoRow, standIns := [], harness := (true, "03e07eafa6b384bd5f92657f450b34355766ce8caa26b8bf8fc20d4b65e5e2d4"), looks := true }, kinds := [], alts := [], laidByText := true, laidKinds := [.data, .data, .data, .sentinel, .sentinel], laidTests := true, laidLooks := .later }
def FileMayUptoCardSaid : Prop := Claim7.holds Tryd.pinned (.plain (OpenSpec.upto fileMaySpec)) fileMayUptoCard

/-- THE SECOND FORM's CARD OF 'sleuthlaw17.FileTwo'. -/
def fileTwoUptoCard : Claim7 := { stood := { row := fileTwoUptoRow, standIns := [], harness := (true, "03e07eafa6b384bd5f92657f450b34355766ce8caa26b8bf8fc20d4b65e5e2d4"), looks := true }, kinds := [], alts := [], laidByText := true, laidKinds := [.data, .data, .data, .sentinel, .sentinel], laidTests := true, laidLooks := .later }
def FileTwoUptoCardSaid : Prop := Claim7.holds Tryd.pinned (.plain (OpenSpec.upto fileTwoSpec)) fileTwoUptoCard
end Rows
end Go.Proofs.YtkbaelhcijibiaaDoor
