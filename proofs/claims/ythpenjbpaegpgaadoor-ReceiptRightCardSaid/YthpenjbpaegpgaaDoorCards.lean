/-
  DERIVED. GIVEN WITH THE SEED: THE CARDS: each row of YthpenjbpaegpgaaDoorRows.lean that lists a variable, with what it lists TIED to the program's text (the seventh form; the later family's looks); each row that meets fmt, with fmt's text TOLD by the authors' own Lean function (tested against real Go, not proved from fmt's source: count such statements apart). THE CARD IS WHAT COUNTS. Prove the row's statement (the work); the ties are given (YthpenjbpaegpgaaDoorTie.lean); close each card by the builder's one call (the guide's Derived/Test/ToyasCard.lean, 'card_holds'). Laid BY PROGRAM, IN A SANDBOX (cutbox-door.mjs). By AI agents, Wed Nov 11 2026. No macro, syntax, notation, axiom, sorry.
-/
import Derived.Test.YthpenjbpaegpgaaDoorRows
import GoSem.ClaimSeven
namespace Go.Proofs.YthpenjbpaegpgaaDoor
namespace Rows

/-- THE TIED CARD OF 'chirographkeep.ReceiptRight'. -/
def receiptRightCard : Claim7 := { stood := { row := receiptRightRow, standIns := [], harness := (true, "80ec83fef9506d84f8f582377b808b43ccb22a2827bc5c61365a860658fd1589"), looks := false }, kinds := [], alts := [], laidByText := true, laidKinds := [.data], laidTests := true, laidLooks := .later }
def ReceiptRightCardSaid : Prop := Claim7.holds Tryd.pinned (.plain (OpenSpec.ofChange receiptRightSpec)) receiptRightCard

/-- THE TIED CARD OF 'chirographkeep.ReceiptSound'. -/
def receiptSoundCard : Claim7 := { stood := { row := receiptSoundRow, standIns := [], harness := (true, "80ec83fef9506d84f8f582377b808b43ccb22a2827bc5c61365a860658fd1589"), looks := false }, kinds := [], alts := [], laidByText := true, laidKinds := [.data], laidTests := true, laidLooks := .later }
def ReceiptSoundCardSaid : Prop := Claim7.holds Tryd.pinned (.plain (OpenSpec.ofChange receiptSoundSpec)) receiptSoundCard

/-- THE SECOND FORM's CARD OF 'chirographkeep.ReceiptRight'. -/
def receiptRightUptoCard : Claim7 := { stood := { row := receiptRightUptoRow, standIns := [], harness := (true, "80ec83fef9506d84f8f582377b808b43ccb22a2827bc5c61365a860658fd1589"), looks := false }, kinds := [], alts := [], laidByText := true, laidKinds := [.data], laidTests := true, laidLooks := .later }
def ReceiptRightUptoCardSaid : Prop := Claim7.holds Tryd.pinned (.plain (OpenSpec.upto receiptRightSpec)) receiptRightUptoCard

/-- THE SECOND FORM's CARD OF 'chirographkeep.ReceiptSound'. -/
def receiptSoundUptoCard : Claim7 := { stood := { row := receiptSoundUptoRow, standIns := [], harness := (true, "80ec83fef9506d84f8f582377b808b43ccb22a2827bc5c61365a860658fd1589"), looks := false }, kinds := [], alts := [], laidByText := true, laidKinds := [.data], laidTests := true, laidLooks := .later }
def ReceiptSoundUptoCardSaid : Prop := Claim7.holds Tryd.pinned (.plain (OpenSpec.upto receiptSoundSpec)) receiptSoundUptoCard
end Rows
end Go.Proofs.YthpenjbpaegpgaaDoor
