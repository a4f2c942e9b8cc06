/-
  DERIVED. GIVEN WITH THE SEED: THE CARDS: each row of YtlcmnhocicehmaaDoorRows.lean that lists a variable, with what it lists TIED to the program's text (the seventh form; the later family's looks); each row that meets fmt, with fmt's text TOLD by the authors' own Lean function (tested against real Go, not proved from fmt's source: count such statements apart). THE CARD IS WHAT COUNTS. Prove the row's statement (the work); the ties are given (YtlcmnhocicehmaaDoorTie.lean); close each card by the builder's one call (the guide's Derived/Test/ToyasCard.lean, 'card_holds'). Laid BY PROGRAM, IN A SANDBOX (cutbox-door.mjs). By AI agents, Wed Nov 11 2026. No macro, syntax, notation, axiom, sorry.
-/
import Derived.Test.YtlcmnhocicehmaaDoorRows
import GoSem.ClaimSeven
namespace Go.Proofs.YtlcmnhocicehmaaDoor
namespace Rows

/-- THE TIED CARD OF 'chirographkeep.SpanTight'. -/
def spanTightCard : Claim7 := { stood := { row := spanTightRow, standIns := [], harness := (true, "75f1eafa0c548cfd2bb32f26cc2bb271e5b9ba4d250baeb86aaac0ce4314fe17"), looks := false }, kinds := [], alts := [], laidByText := true, laidKinds := [.data, .pinned], laidTests := true, laidLooks := .later }
def SpanTightCardSaid : Prop := Claim7.holds Tryd.pinned (.plain (OpenSpec.ofChange spanTightSpec)) spanTightCard

/-- THE TIED CARD OF 'chirographkeep.SpanSound'. -/
def spanSoundCard : Claim7 := { stood := { row := spanSoundRow, standIns := [], harness := (true, "75f1eafa0c548cfd2bb32f26cc2bb271e5b9ba4d250baeb86aaac0ce4314fe17"), looks := false }, kinds := [], alts := [], laidByText := true, laidKinds := [.data, .pinned], laidTests := true, laidLooks := .later }
def SpanSoundCardSaid : Prop := Claim7.holds Tryd.pinned (.plain (OpenSpec.ofChange spanSoundSpec)) spanSoundCard

/-- THE TIED CARD OF 'chirographkeep.InsertThere'. -/
def insertThereCard : Claim7 := { stood := { row := insertThereRow, standIns := [], harness := (true, "75f1eafa0c548cfd2bb32f26cc2bb271e5b9ba4d250baeb86aaac0ce4314fe17"), looks := false }, kinds := [], alts := [], laidByText := true, laidKinds := [.data, .pinned], laidTests := true, laidLooks := .later }
def InsertThereCardSaid : Prop := Claim7.holds Tryd.pinned (.plain (OpenSpec.ofChange insertThereSpec)) insertThereCard

/-- THE TIED CARD OF 'chirographkeep.RowsRise'. -/
def rowsRiseCard : Claim7 := { stood := { row := rowsRiseRow, standIns := [], harness := (true, "75f1eafa0c548cfd2bb32f26cc2bb271e5b9ba4d250baeb86aaac0ce4314fe17"), looks := false }, kinds := [], alts := [], laidByText := true, laidKinds := [.data, .pinned], laidTests := true, laidLooks := .later }
def RowsRiseCardSaid : Prop := Claim7.holds Tryd.pinned (.plain (OpenSpec.ofChange rowsRiseSpec)) rowsRiseCard

/-- THE TIED CARD OF 'chirographkeep.DeleteParts'. -/
def deletePartsCard : Claim7 := { stood := { row := deletePartsRow, standIns := [], harness := (true, "75f1eafa0c548cfd2bb32f26cc2bb271e5b9ba4d250baeb86aaac0ce4314fe17"), looks := false }, kinds := [], alts := [], laidByText := true, laidKinds := [.data, .pinned], laidTests := true, laidLooks := .later }
def DeletePartsCardSaid : Prop := Claim7.holds Tryd.pinned (.plain (OpenSpec.ofChange deletePartsSpec)) deletePartsCard

/-- THE TIED CARD OF 'chirographkeep.InsertDelete'. -/
def insertDeleteCard : Claim7 := { stood := { row := insertDeleteRow, standIns := [], harness := (true, "75f1eafa0c548cfd2bb32f26cc2bb271e5b9ba4d250baeb86aaac0ce4314fe17"), looks := false }, kinds := [], alts := [], laidByText := true, laidKinds := [.data, .pinned], laidTests := true, laidLooks := .later }
def InsertDeleteCardSaid : Prop := Claim7.holds Tryd.pinned (.plain (OpenSpec.ofChange insertDeleteSpec)) insertDeleteCard

/-- THE TIED CARD OF 'chirographkeep.UpdateParts'. -/
def updatePartsCard : Claim7 := { stood := { row := updatePartsRow, standIns := [], harness := (true, "75f1eafa0c548cfd2bb32f26cc2bb271e5b9ba4d250baeb86aaac0ce4314fe17"), looks := false }, kinds := [], alts := [], laidByText := true, laidKinds := [.data, .pinned], laidTests := true, laidLooks := .later }
def UpdatePartsCardSaid : Prop := Claim7.holds Tryd.pinned (.plain (OpenSpec.ofChange updatePartsSpec)) updatePartsCard

/-- THE SECOND FORM's CARD OF 'chirographkeep.SpanTight'. -/
def spanTightUptoCard : Claim7 := { stood := { row := spanTightUptoRow, standIns := [], harness := (true, "75f1eafa0c548cfd2bb32f26cc2bb271e5b9ba4d250baeb86aaac0ce4314fe17"), looks := false }, kinds := [], alts := [], laidByText := true, laidKinds := [.data, .pinned], laidTests := true, laidLooks := .later }
def SpanTightUptoCardSaid : Prop := Claim7.holds Tryd.pinned (.plain (OpenSpec.upto spanTightSpec)) spanTightUptoCard

/-- THE SECOND FORM's CARD OF 'chirographkeep.SpanSound'. -/
def spanSoundUptoCard : Claim7 := { stood := { row := spanSoundUptoRow, standIns := [], harness := (true, "75f1eafa0c548cfd2bb32f26cc2bb271e5b9ba4d250baeb86aaac0ce4314fe17"), looks := false }, kinds := [], alts := [], laidByText := true, laidKinds := [.data, .pinned], laidTests := true, laidLooks := .later }
def SpanSoundUptoCardSaid : Prop := Claim7.holds Tryd.pinned (.plain (OpenSpec.upto spanSoundSpec)) spanSoundUptoCard

/-- THE SECOND FORM's CARD OF 'chirographkeep.InsertThere'. -/
def insertThereUptoCard : Claim7 := { stood := { row := insertThereUptoRow, standIns := [], harness := (true, "75f1eafa0c548cfd2bb32f26cc2bb271e5b9ba4d250baeb86aaac0ce4314fe17"), looks := false }, kinds := [], alts := [], laidByText := true, laidKinds := [.data, .pinned], laidTests := true, laidLooks := .later }
def InsertThereUptoCardSaid : Prop := Claim7.holds Tryd.pinned (.plain (OpenSpec.upto insertThereSpec)) insertThereUptoCard

/-- THE SECOND FORM's CARD OF 'chirographkeep.RowsRise'. -/
def rowsRiseUptoCard : Claim7 := { stood := { row := rowsRiseUptoRow, standIns := [], harness := (true, "75f1eafa0c548cfd2bb32f26cc2bb271e5b9ba4d250baeb86aaac0ce4314fe17"), looks := false }, kinds := [], alts := [], laidByText := true, laidKinds := [.data, .pinned], laidTests := true, laidLooks := .later }
def RowsRiseUptoCardSaid : Prop := Claim7.holds Tryd.pinned (.plain (OpenSpec.upto rowsRiseSpec)) rowsRiseUptoCard

/-- THE SECOND FORM's CARD OF 'chirographkeep.DeleteParts'. -/
def deletePartsUptoCard : Claim7 := { stood := { row := deletePartsUptoRow, standIns := [], harness := (true, "75f1eafa0c548cfd2bb32f26cc2bb271e5b9ba4d250baeb86aaac0ce4314fe17"), looks := false }, kinds := [], alts := [], laidByText := true, laidKinds := [.data, .pinned], laidTests := true, laidLooks := .later }
def DeletePartsUptoCardSaid : Prop := Claim7.holds Tryd.pinned (.plain (OpenSpec.upto deletePartsSpec)) deletePartsUptoCard

/-- THE SECOND FORM's CARD OF 'chirographkeep.InsertDelete'. -/
def insertDeleteUptoCard : Claim7 := { stood := { row := insertDeleteUptoRow, standIns := [], harness := (true, "75f1eafa0c548cfd2bb32f26cc2bb271e5b9ba4d250baeb86aaac0ce4314fe17"), looks := false }, kinds := [], alts := [], laidByText := true, laidKinds := [.data, .pinned], laidTests := true, laidLooks := .later }
def InsertDeleteUptoCardSaid : Prop := Claim7.holds Tryd.pinned (.plain (OpenSpec.upto insertDeleteSpec)) insertDeleteUptoCard

/-- THE SECOND FORM's CARD OF 'chirographkeep.UpdateParts'. -/
def updatePartsUptoCard : Claim7 := { stood := { row := updatePartsUptoRow, standIns := [], harness := (true, "75f1eafa0c548cfd2bb32f26cc2bb271e5b9ba4d250baeb86aaac0ce4314fe17"), looks := false }, kinds := [], alts := [], laidByText := true, laidKinds := [.data, .pinned], laidTests := true, laidLooks := .later }
def UpdatePartsUptoCardSaid : Prop := Claim7.holds Tryd.pinned (.plain (OpenSpec.upto updatePartsSpec)) updatePartsUptoCard
end Rows
end Go.Proofs.YtlcmnhocicehmaaDoor
