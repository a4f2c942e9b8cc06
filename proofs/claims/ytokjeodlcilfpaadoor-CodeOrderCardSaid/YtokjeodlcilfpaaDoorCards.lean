/-
  DERIVED. GIVEN WITH THE SEED: THE CARDS: each row of YtokjeodlcilfpaaDoorRows.lean that lists a variable, with what it lists TIED to the program's text (the seventh form; the later family's looks); each row that meets fmt, with fmt's text TOLD by the authors' own Lean function (tested against real Go, not proved from fmt's source: count such statements apart). THE CARD IS WHAT COUNTS. Prove the row's statement (the work); the ties are given (YtokjeodlcilfpaaDoorTie.lean); close each card by the builder's one call (the guide's Derived/Test/ToyasCard.lean, 'card_holds'). Laid BY PROGRAM, IN A SANDBOX (cutbox-door.mjs). By AI agents, Wed Nov 11 2026. No macro, syntax, notation, axiom, sorry.
-/
import Derived.Test.YtokjeodlcilfpaaDoorRows
import GoSem.ClaimSeven
namespace Go.Proofs.YtokjeodlcilfpaaDoor
namespace Rows

/-- THE TIED CARD OF 'chirographkeep.CoverShape'. -/
def coverShapeCard : Claim7 := { stood := { row := coverShapeRow, standIns := [], harness := (true, "2a7894686ccedeccc6c2fd0cb81302e2925e396bd3c2b2baea6f25d539f22599"), looks := false }, kinds := [], alts := [], laidByText := true, laidKinds := [.data], laidTests := true, laidLooks := .later }
def CoverShapeCardSaid : Prop := Claim7.holds Tryd.pinned (.plain (OpenSpec.ofChange coverShapeSpec)) coverShapeCard

/-- THE TIED CARD OF 'chirographkeep.CoverPath'. -/
def coverPathCard : Claim7 := { stood := { row := coverPathRow, standIns := [], harness := (true, "2a7894686ccedeccc6c2fd0cb81302e2925e396bd3c2b2baea6f25d539f22599"), looks := false }, kinds := [], alts := [], laidByText := true, laidKinds := [.data], laidTests := true, laidLooks := .later }
def CoverPathCardSaid : Prop := Claim7.holds Tryd.pinned (.plain (OpenSpec.ofChange coverPathSpec)) coverPathCard

/-- THE TIED CARD OF 'chirographkeep.CoverRight'. -/
def coverRightCard : Claim7 := { stood := { row := coverRightRow, standIns := [], harness := (true, "2a7894686ccedeccc6c2fd0cb81302e2925e396bd3c2b2baea6f25d539f22599"), looks := false }, kinds := [], alts := [], laidByText := true, laidKinds := [.data], laidTests := true, laidLooks := .later }
def CoverRightCardSaid : Prop := Claim7.holds Tryd.pinned (.plain (OpenSpec.ofChange coverRightSpec)) coverRightCard

/-- THE TIED CARD OF 'chirographkeep.CoverSound'. -/
def coverSoundCard : Claim7 := { stood := { row := coverSoundRow, standIns := [], harness := (true, "2a7894686ccedeccc6c2fd0cb81302e2925e396bd3c2b2baea6f25d539f22599"), looks := false }, kinds := [], alts := [], laidByText := true, laidKinds := [.data], laidTests := true, laidLooks := .later }
def CoverSoundCardSaid : Prop := Claim7.holds Tryd.pinned (.plain (OpenSpec.ofChange coverSoundSpec)) coverSoundCard

/-- THE TIED CARD OF 'chirographkeep.CodeBack'. -/
def codeBackCard : Claim7 := { stood := { row := codeBackRow, standIns := [], harness := (true, "2a7894686ccedeccc6c2fd0cb81302e2925e396bd3c2b2baea6f25d539f22599"), looks := false }, kinds := [], alts := [], laidByText := true, laidKinds := [.data, .pinned], laidTests := true, laidLooks := .later }
def CodeBackCardSaid : Prop := Claim7.holds Tryd.pinned (.plain (OpenSpec.ofChange codeBackSpec)) codeBackCard

/-- THE TIED CARD OF 'chirographkeep.CodeFixed'. -/
def codeFixedCard : Claim7 := { stood := { row := codeFixedRow, standIns := [], harness := (true, "2a7894686ccedeccc6c2fd0cb81302e2925e396bd3c2b2baea6f25d539f22599"), looks := false }, kinds := [], alts := [], laidByText := true, laidKinds := [.data, .pinned], laidTests := true, laidLooks := .later }
def CodeFixedCardSaid : Prop := Claim7.holds Tryd.pinned (.plain (OpenSpec.ofChange codeFixedSpec)) codeFixedCard

/-- THE TIED CARD OF 'chirographkeep.CodeApart'. -/
def codeApartCard : Claim7 := { stood := { row := codeApartRow, standIns := [], harness := (true, "2a7894686ccedeccc6c2fd0cb81302e2925e396bd3c2b2baea6f25d539f22599"), looks := false }, kinds := [], alts := [], laidByText := true, laidKinds := [.data, .pinned], laidTests := true, laidLooks := .later }
def CodeApartCardSaid : Prop := Claim7.holds Tryd.pinned (.plain (OpenSpec.ofChange codeApartSpec)) codeApartCard

/-- THE TIED CARD OF 'chirographkeep.CodeJoins'. -/
def codeJoinsCard : Claim7 := { stood := { row := codeJoinsRow, standIns := [], harness := (true, "2a7894686ccedeccc6c2fd0cb81302e2925e396bd3c2b2baea6f25d539f22599"), looks := false }, kinds := [], alts := [], laidByText := true, laidKinds := [.data, .pinned], laidTests := true, laidLooks := .later }
def CodeJoinsCardSaid : Prop := Claim7.holds Tryd.pinned (.plain (OpenSpec.ofChange codeJoinsSpec)) codeJoinsCard

/-- THE TIED CARD OF 'chirographkeep.CodeOrder'. -/
def codeOrderCard : Claim7 := { stood := { row := codeOrderRow, standIns := [], harness := (true, "2a7894686ccedeccc6c2fd0cb81302e2925e396bd3c2b2baea6f25d539f22599"), looks := false }, kinds := [], alts := [], laidByText := true, laidKinds := [.data, .pinned], laidTests := true, laidLooks := .later }
def CodeOrderCardSaid : Prop := Claim7.holds Tryd.pinned (.plain (OpenSpec.ofChange codeOrderSpec)) codeOrderCard

/-- THE SECOND FORM's CARD OF 'chirographkeep.CoverShape'. -/
def coverShapeUptoCard : Claim7 := { stood := { row := coverShapeUptoRow, standIns := [], harness := (true, "2a7894686ccedeccc6c2fd0cb81302e2925e396bd3c2b2baea6f25d539f22599"), looks := false }, kinds := [], alts := [], laidByText := true, laidKinds := [.data], laidTests := true, laidLooks := .later }
def CoverShapeUptoCardSaid : Prop := Claim7.holds Tryd.pinned (.plain (OpenSpec.upto coverShapeSpec)) coverShapeUptoCard

/-- THE SECOND FORM's CARD OF 'chirographkeep.CoverPath'. -/
def coverPathUptoCard : Claim7 := { stood := { row := coverPathUptoRow, standIns := [], harness := (true, "2a7894686ccedeccc6c2fd0cb81302e2925e396bd3c2b2baea6f25d539f22599"), looks := false }, kinds := [], alts := [], laidByText := true, laidKinds := [.data], laidTests := true, laidLooks := .later }
def CoverPathUptoCardSaid : Prop := Claim7.holds Tryd.pinned (.plain (OpenSpec.upto coverPathSpec)) coverPathUptoCard

/-- THE SECOND FORM's CARD OF 'chirographkeep.CoverRight'. -/
def coverRightUptoCard : Claim7 := { stood := { row := coverRightUptoRow, standIns := [], harness := (true, "2a7894686ccedeccc6c2fd0cb81302e2925e396bd3c2b2baea6f25d539f22599"), looks := false }, kinds := [], alts := [], laidByText := true, laidKinds := [.data], laidTests := true, laidLooks := .later }
def CoverRightUptoCardSaid : Prop := Claim7.holds Tryd.pinned (.plain (OpenSpec.upto coverRightSpec)) coverRightUptoCard

/-- THE SECOND FORM's CARD OF 'chirographkeep.CoverSound'. -/
def coverSoundUptoCard : Claim7 := { stood := { row := coverSoundUptoRow, standIns := [], harness := (true, "2a7894686ccedeccc6c2fd0cb81302e2925e396bd3c2b2baea6f25d539f22599"), looks := false }, kinds := [], alts := [], laidByText := true, laidKinds := [.data], laidTests := true, laidLooks := .later }
def CoverSoundUptoCardSaid : Prop := Claim7.holds Tryd.pinned (.plain (OpenSpec.upto coverSoundSpec)) coverSoundUptoCard

/-- THE SECOND FORM's CARD OF 'chirographkeep.CodeBack'. -/
def codeBackUptoCard : Claim7 := { stood := { row := codeBackUptoRow, standIns := [], harness := (true, "2a7894686ccedeccc6c2fd0cb81302e2925e396bd3c2b2baea6f25d539f22599"), looks := false }, kinds := [], alts := [], laidByText := true, laidKinds := [.data, .pinned], laidTests := true, laidLooks := .later }
def CodeBackUptoCardSaid : Prop := Claim7.holds Tryd.pinned (.plain (OpenSpec.upto codeBackSpec)) codeBackUptoCard

/-- THE SECOND FORM's CARD OF 'chirographkeep.CodeFixed'. -/
def codeFixedUptoCard : Claim7 := { stood := { row := codeFixedUptoRow, standIns := [], harness := (true, "2a7894686ccedeccc6c2fd0cb81302e2925e396bd3c2b2baea6f25d539f22599"), looks := false }, kinds := [], alts := [], laidByText := true, laidKinds := [.data, .pinned], laidTests := true, laidLooks := .later }
def CodeFixedUptoCardSaid : Prop := Claim7.holds Tryd.pinned (.plain (OpenSpec.upto codeFixedSpec)) codeFixedUptoCard

/-- THE SECOND FORM's CARD OF 'chirographkeep.CodeApart'. -/
def codeApartUptoCard : Claim7 := { stood := { row := codeApartUptoRow, standIns := [], harness := (true, "2a7894686ccedeccc6c2fd0cb81302e2925e396bd3c2b2baea6f25d539f22599"), looks := false }, kinds := [], alts := [], laidByText := true, laidKinds := [.data, .pinned], laidTests := true, laidLooks := .later }
def CodeApartUptoCardSaid : Prop := Claim7.holds Tryd.pinned (.plain (OpenSpec.upto codeApartSpec)) codeApartUptoCard

/-- THE SECOND FORM's CARD OF 'chirographkeep.CodeJoins'. -/
def codeJoinsUptoCard : Claim7 := { stood := { row := codeJoinsUptoRow, standIns := [], harness := (true, "2a7894686ccedeccc6c2fd0cb81302e2925e396bd3c2b2baea6f25d539f22599"), looks := false }, kinds := [], alts := [], laidByText := true, laidKinds := [.data, .pinned], laidTests := true, laidLooks := .later }
def CodeJoinsUptoCardSaid : Prop := Claim7.holds Tryd.pinned (.plain (OpenSpec.upto codeJoinsSpec)) codeJoinsUptoCard

/-- THE SECOND FORM's CARD OF 'chirographkeep.CodeOrder'. -/
def codeOrderUptoCard : Claim7 := { stood := { row := codeOrderUptoRow, standIns := [], harness := (true, "2a7894686ccedeccc6c2fd0cb81302e2925e396bd3c2b2baea6f25d539f22599"), looks := false }, kinds := [], alts := [], laidByText := true, laidKinds := [.data, .pinned], laidTests := true, laidLooks := .later }
def CodeOrderUptoCardSaid : Prop := Claim7.holds Tryd.pinned (.plain (OpenSpec.upto codeOrderSpec)) codeOrderUptoCard
end Rows
end Go.Proofs.YtokjeodlcilfpaaDoor
