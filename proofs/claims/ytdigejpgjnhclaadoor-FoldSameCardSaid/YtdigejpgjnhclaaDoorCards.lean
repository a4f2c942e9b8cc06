/-
  DERIVED. GIVEN WITH THE SEED: THE CARDS: each row of YtdigejpgjnhclaaDoorRows.lean that lists a variable, with what it lists TIED to the program's text (the seventh form; the later family's looks); each row that meets fmt, with fmt's text TOLD by the authors' own Lean function (tested against real Go, not proved from fmt's source: count such statements apart). THE CARD IS WHAT COUNTS. Prove the row's statement (the work); the ties are given (YtdigejpgjnhclaaDoorTie.lean); close each card by the builder's one call (the guide's Derived/Test/ToyasCard.lean, 'card_holds'). Laid BY PROGRAM, IN A SANDBOX (cutbox-door.mjs). By AI agents, Wed Nov 11 2026. No macro, syntax, notation, axiom, sorry.
-/
import Derived.Test.YtdigejpgjnhclaaDoorRows
import GoSem.ClaimSeven
namespace Go.Proofs.YtdigejpgjnhclaaDoor
namespace Rows

/-- THE TIED CARD OF 'chirographkeep.KindMore'. -/
def kindMoreCard : Claim7 := { stood := { row := kindMoreRow, standIns := [], harness := (true, "2e81c549399ba827e71db1a79394995b8f70af1e042b70fbf9d2d046e8a2b62c"), looks := true }, kinds := [], alts := [], laidByText := true, laidKinds := [.data, .pinned], laidTests := true, laidLooks := .later }
def KindMoreCardSaid : Prop := Claim7.holds Tryd.pinned (.plain (OpenSpec.ofChange kindMoreSpec)) kindMoreCard

/-- THE TIED CARD OF 'chirographkeep.KindStrict'. -/
def kindStrictCard : Claim7 := { stood := { row := kindStrictRow, standIns := [], harness := (true, "2e81c549399ba827e71db1a79394995b8f70af1e042b70fbf9d2d046e8a2b62c"), looks := true }, kinds := [], alts := [], laidByText := true, laidKinds := [.data, .pinned], laidTests := true, laidLooks := .later }
def KindStrictCardSaid : Prop := Claim7.holds Tryd.pinned (.plain (OpenSpec.ofChange kindStrictSpec)) kindStrictCard

/-- THE TIED CARD OF 'chirographkeep.EvalSums'. -/
def evalSumsCard : Claim7 := { stood := { row := evalSumsRow, standIns := [], harness := (true, "2e81c549399ba827e71db1a79394995b8f70af1e042b70fbf9d2d046e8a2b62c"), looks := true }, kinds := [], alts := [], laidByText := true, laidKinds := [.data, .pinned], laidTests := true, laidLooks := .later }
def EvalSumsCardSaid : Prop := Claim7.holds Tryd.pinned (.plain (OpenSpec.ofChange evalSumsSpec)) evalSumsCard

/-- THE TIED CARD OF 'chirographkeep.EvalParts'. -/
def evalPartsCard : Claim7 := { stood := { row := evalPartsRow, standIns := [], harness := (true, "2e81c549399ba827e71db1a79394995b8f70af1e042b70fbf9d2d046e8a2b62c"), looks := true }, kinds := [], alts := [], laidByText := true, laidKinds := [.data, .pinned], laidTests := true, laidLooks := .later }
def EvalPartsCardSaid : Prop := Claim7.holds Tryd.pinned (.plain (OpenSpec.ofChange evalPartsSpec)) evalPartsCard

/-- THE TIED CARD OF 'chirographkeep.EvalNulls'. -/
def evalNullsCard : Claim7 := { stood := { row := evalNullsRow, standIns := [], harness := (true, "2e81c549399ba827e71db1a79394995b8f70af1e042b70fbf9d2d046e8a2b62c"), looks := true }, kinds := [], alts := [], laidByText := true, laidKinds := [.data, .pinned], laidTests := true, laidLooks := .later }
def EvalNullsCardSaid : Prop := Claim7.holds Tryd.pinned (.plain (OpenSpec.ofChange evalNullsSpec)) evalNullsCard

/-- THE TIED CARD OF 'chirographkeep.EvalShort'. -/
def evalShortCard : Claim7 := { stood := { row := evalShortRow, standIns := [], harness := (true, "2e81c549399ba827e71db1a79394995b8f70af1e042b70fbf9d2d046e8a2b62c"), looks := true }, kinds := [], alts := [], laidByText := true, laidKinds := [.data, .pinned], laidTests := true, laidLooks := .later }
def EvalShortCardSaid : Prop := Claim7.holds Tryd.pinned (.plain (OpenSpec.ofChange evalShortSpec)) evalShortCard

/-- THE TIED CARD OF 'chirographkeep.EvalMorgan'. -/
def evalMorganCard : Claim7 := { stood := { row := evalMorganRow, standIns := [], harness := (true, "2e81c549399ba827e71db1a79394995b8f70af1e042b70fbf9d2d046e8a2b62c"), looks := true }, kinds := [], alts := [], laidByText := true, laidKinds := [.data, .pinned], laidTests := true, laidLooks := .later }
def EvalMorganCardSaid : Prop := Claim7.holds Tryd.pinned (.plain (OpenSpec.ofChange evalMorganSpec)) evalMorganCard

/-- THE TIED CARD OF 'chirographkeep.LengthJoins'. -/
def lengthJoinsCard : Claim7 := { stood := { row := lengthJoinsRow, standIns := [], harness := (true, "2e81c549399ba827e71db1a79394995b8f70af1e042b70fbf9d2d046e8a2b62c"), looks := true }, kinds := [], alts := [], laidByText := true, laidKinds := [.data, .pinned], laidTests := true, laidLooks := .later }
def LengthJoinsCardSaid : Prop := Claim7.holds Tryd.pinned (.plain (OpenSpec.ofChange lengthJoinsSpec)) lengthJoinsCard

/-- THE TIED CARD OF 'chirographkeep.FoldSame'. -/
def foldSameCard : Claim7 := { stood := { row := foldSameRow, standIns := [], harness := (true, "2e81c549399ba827e71db1a79394995b8f70af1e042b70fbf9d2d046e8a2b62c"), looks := true }, kinds := [], alts := [], laidByText := true, laidKinds := [.data, .pinned], laidTests := true, laidLooks := .later }
def FoldSameCardSaid : Prop := Claim7.holds Tryd.pinned (.plain (OpenSpec.ofChange foldSameSpec)) foldSameCard

/-- THE TIED CARD OF 'chirographkeep.KindSound'. -/
def kindSoundCard : Claim7 := { stood := { row := kindSoundRow, standIns := [], harness := (true, "2e81c549399ba827e71db1a79394995b8f70af1e042b70fbf9d2d046e8a2b62c"), looks := true }, kinds := [], alts := [], laidByText := true, laidKinds := [.data, .pinned], laidTests := true, laidLooks := .later }
def KindSoundCardSaid : Prop := Claim7.holds Tryd.pinned (.plain (OpenSpec.ofChange kindSoundSpec)) kindSoundCard

/-- THE SECOND FORM's CARD OF 'chirographkeep.KindMore'. -/
def kindMoreUptoCard : Claim7 := { stood := { row := kindMoreUptoRow, standIns := [], harness := (true, "2e81c549399ba827e71db1a79394995b8f70af1e042b70fbf9d2d046e8a2b62c"), looks := true }, kinds := [], alts := [], laidByText := true, laidKinds := [.data, .pinned], laidTests := true, laidLooks := .later }
def KindMoreUptoCardSaid : Prop := Claim7.holds Tryd.pinned (.plain (OpenSpec.upto kindMoreSpec)) kindMoreUptoCard

/-- THE SECOND FORM's CARD OF 'chirographkeep.KindStrict'. -/
def kindStrictUptoCard : Claim7 := { stood := { row := kindStrictUptoRow, standIns := [], harness := (true, "2e81c549399ba827e71db1a79394995b8f70af1e042b70fbf9d2d046e8a2b62c"), looks := true }, kinds := [], alts := [], laidByText := true, laidKinds := [.data, .pinned], laidTests := true, laidLooks := .later }
def KindStrictUptoCardSaid : Prop := Claim7.holds Tryd.pinned (.plain (OpenSpec.upto kindStrictSpec)) kindStrictUptoCard

/-- THE SECOND FORM's CARD OF 'chirographkeep.EvalSums'. -/
def evalSumsUptoCard : Claim7 := { stood := { row := evalSumsUptoRow, standIns := [], harness := (true, "2e81c549399ba827e71db1a79394995b8f70af1e042b70fbf9d2d046e8a2b62c"), looks := true }, kinds := [], alts := [], laidByText := true, laidKinds := [.data, .pinned], laidTests := true, laidLooks := .later }
def EvalSumsUptoCardSaid : Prop := Claim7.holds Tryd.pinned (.plain (OpenSpec.upto evalSumsSpec)) evalSumsUptoCard

/-- THE SECOND FORM's CARD OF 'chirographkeep.EvalParts'. -/
def evalPartsUptoCard : Claim7 := { stood := { row := evalPartsUptoRow, standIns := [], harness := (true, "2e81c549399ba827e71db1a79394995b8f70af1e042b70fbf9d2d046e8a2b62c"), looks := true }, kinds := [], alts := [], laidByText := true, laidKinds := [.data, .pinned], laidTests := true, laidLooks := .later }
def EvalPartsUptoCardSaid : Prop := Claim7.holds Tryd.pinned (.plain (OpenSpec.upto evalPartsSpec)) evalPartsUptoCard

/-- THE SECOND FORM's CARD OF 'chirographkeep.EvalNulls'. -/
def evalNullsUptoCard : Claim7 := { stood := { row := evalNullsUptoRow, standIns := [], harness := (true, "2e81c549399ba827e71db1a79394995b8f70af1e042b70fbf9d2d046e8a2b62c"), looks := true }, kinds := [], alts := [], laidByText := true, laidKinds := [.data, .pinned], laidTests := true, laidLooks := .later }
def EvalNullsUptoCardSaid : Prop := Claim7.holds Tryd.pinned (.plain (OpenSpec.upto evalNullsSpec)) evalNullsUptoCard

/-- THE SECOND FORM's CARD OF 'chirographkeep.EvalShort'. -/
def evalShortUptoCard : Claim7 := { stood := { row := evalShortUptoRow, standIns := [], harness := (true, "2e81c549399ba827e71db1a79394995b8f70af1e042b70fbf9d2d046e8a2b62c"), looks := true }, kinds := [], alts := [], laidByText := true, laidKinds := [.data, .pinned], laidTests := true, laidLooks := .later }
def EvalShortUptoCardSaid : Prop := Claim7.holds Tryd.pinned (.plain (OpenSpec.upto evalShortSpec)) evalShortUptoCard

/-- THE SECOND FORM's CARD OF 'chirographkeep.EvalMorgan'. -/
def evalMorganUptoCard : Claim7 := { stood := { row := evalMorganUptoRow, standIns := [], harness := (true, "2e81c549399ba827e71db1a79394995b8f70af1e042b70fbf9d2d046e8a2b62c"), looks := true }, kinds := [], alts := [], laidByText := true, laidKinds := [.data, .pinned], laidTests := true, laidLooks := .later }
def EvalMorganUptoCardSaid : Prop := Claim7.holds Tryd.pinned (.plain (OpenSpec.upto evalMorganSpec)) evalMorganUptoCard

/-- THE SECOND FORM's CARD OF 'chirographkeep.LengthJoins'. -/
def lengthJoinsUptoCard : Claim7 := { stood := { row := lengthJoinsUptoRow, standIns := [], harness := (true, "2e81c549399ba827e71db1a79394995b8f70af1e042b70fbf9d2d046e8a2b62c"), looks := true }, kinds := [], alts := [], laidByText := true, laidKinds := [.data, .pinned], laidTests := true, laidLooks := .later }
def LengthJoinsUptoCardSaid : Prop := Claim7.holds Tryd.pinned (.plain (OpenSpec.upto lengthJoinsSpec)) lengthJoinsUptoCard

/-- THE SECOND FORM's CARD OF 'chirographkeep.FoldSame'. -/
def foldSameUptoCard : Claim7 := { stood := { row := foldSameUptoRow, standIns := [], harness := (true, "2e81c549399ba827e71db1a79394995b8f70af1e042b70fbf9d2d046e8a2b62c"), looks := true }, kinds := [], alts := [], laidByText := true, laidKinds := [.data, .pinned], laidTests := true, laidLooks := .later }
def FoldSameUptoCardSaid : Prop := Claim7.holds Tryd.pinned (.plain (OpenSpec.upto foldSameSpec)) foldSameUptoCard

/-- THE SECOND FORM's CARD OF 'chirographkeep.KindSound'. -/
def kindSoundUptoCard : Claim7 := { stood := { row := kindSoundUptoRow, standIns := [], harness := (true, "2e81c549399ba827e71db1a79394995b8f70af1e042b70fbf9d2d046e8a2b62c"), looks := true }, kinds := [], alts := [], laidByText := true, laidKinds := [.data, .pinned], laidTests := true, laidLooks := .later }
def KindSoundUptoCardSaid : Prop := Claim7.holds Tryd.pinned (.plain (OpenSpec.upto kindSoundSpec)) kindSoundUptoCard
end Rows
end Go.Proofs.YtdigejpgjnhclaaDoor
