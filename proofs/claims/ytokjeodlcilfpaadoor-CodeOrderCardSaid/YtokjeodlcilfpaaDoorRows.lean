/-
  NARROWER THAN 'FOR EVERY INPUT', by the rows' own cells (each row's printed sentence says how): CoverShape: laid · CoverPath: laid · CoverRight: laid · CoverSound: laid · CodeBack: laid · CodeFixed: laid · CodeApart: laid · CodeJoins: laid · CodeOrder: laid.
  DERIVED. THE GIVEN ROWS OF THIS SEAT. 9 by the template 'for every input the law returns true; each argument reads behind the call as it read before'; 0 by the template 'total and deterministic' (their statements: YtokjeodlcilfpaaDoorTotals.lean).
  GIVEN WITH THE SEED: the statements are not yours to turn. If you find one false, say at which input.
  Laid BY PROGRAM, IN A SANDBOX (cutbox-rows.mjs): the forced cells as the released guide's own fill.sh prints them over the translation 83481a11cfc0238e… (all of the seat's roots in one cut). By AI agents, Wed Nov 11 2026. No macro, syntax, notation, axiom, sorry.
-/
import Derived.Test.YtokjeodlcilfpaaDoorChecked
import GoSem.PinnedTables
import GoSem.Claim
import GoSem.ClaimJoined
import GoSem.ClaimMapViews
import Derived.JoinedTies
import Derived.KernelRfl
namespace Go.Proofs.YtokjeodlcilfpaaDoor
/- THE CELL 'sum', in the pinned program and in every row, IS THE sha256 OF THE DUMP (.gsa) THAT YtokjeodlcilfpaaDoorProg.lean LOADS. Nothing in Lean hashes anything: it is a label: what it is worth is what the hold of that sum in a sandbox is worth. -/
noncomputable def Tryd.pinned : Pinned := { name := "ytokjeodlcilfpaadoor", sum := "83481a11cfc0238e01859c6597539ec417fbfce820ba27eb78b40c50bbe74253", checked := Tryd.checked }
namespace Rows
def none {H : Type} : Left H := { results := [], args := [] }

/- WHAT THE LISTED PACKAGE-LEVEL VARIABLES READ AS WHEN THE CALL BEGINS. Each datum BY PROGRAM (the guide's laid-datum.mjs) off the statement by which the dump's own 'gosem.cut.vars' lays the variable. In a bare row this is a premise. The card (YtokjeodlcilfpaaDoorCards.lean) ties it to the program's text. -/
def laid_chirograph_sum_steps {H : Type} : DataW H := .agg [.lit (.int .u32 1116352408), .lit (.int .u32 1899447441), .lit (.int .u32 3049323471), .lit (.int .u32 3921009573), .lit (.int .u32 961987163), .lit (.int .u32 1508970993), .lit (.int .u32 2453635748), .lit (.int .u32 2870763221), .lit (.int .u32 3624381080), .lit (.int .u32 310598401), .lit (.int .u32 607225278), .lit (.int .u32 1426881987), .lit (.int .u32 1925078388), .lit (.int .u32 2162078206), .lit (.int .u32 2614888103), .lit (.int .u32 3248222580), .lit (.int .u32 3835390401), .lit (.int .u32 4022224774), .lit (.int .u32 264347078), .lit (.int .u32 604807628), .lit (.int .u32 770255983), .lit (.int .u32 1249150122), .lit (.int .u32 1555081692), .lit (.int .u32 1996064986), .lit (.int .u32 2554220882), .lit (.int .u32 2821834349), .lit (.int .u32 2952996808), .lit (.int .u32 3210313671), .lit (.int .u32 3336571891), .lit (.int .u32 3584528711), .lit (.int .u32 113926993), .lit (.int .u32 338241895), .lit (.int .u32 666307205), .lit (.int .u32 773529912), .lit (.int .u32 1294757372), .lit (.int .u32 1396182291), .lit (.int .u32 1695183700), .lit (.int .u32 1986661051), .lit (.int .u32 2177026350), .lit (.int .u32 2456956037), .lit (.int .u32 2730485921), .lit (.int .u32 2820302411), .lit (.int .u32 3259730800), .lit (.int .u32 3345764771), .lit (.int .u32 3516065817), .lit (.int .u32 3600352804), .lit (.int .u32 4094571909), .lit (.int .u32 275423344), .lit (.int .u32 430227734), .lit (.int .u32 506948616), .lit (.int .u32 659060556), .lit (.int .u32 883997877), .lit (.int .u32 958139571), .lit (.int .u32 1322822218), .lit (.int .u32 1537002063), .lit (.int .u32 1747873779), .lit (.int .u32 1955562222), .lit (.int .u32 2024104815), .lit (.int .u32 2227730452), .lit (.int .u32 2361852424), .lit (.int .u32 2428436474), .lit (.int .u32 2756734187), .lit (.int .u32 3204031479), .lit (.int .u32 3329325298)]
def laid_unicode_utf8_acceptRanges {H : Type} : DataW H := .agg [.agg [.lit (.int .u8 128), .lit (.int .u8 191)], .agg [.lit (.int .u8 160), .lit (.int .u8 191)], .agg [.lit (.int .u8 128), .lit (.int .u8 159)], .agg [.lit (.int .u8 144), .lit (.int .u8 191)], .agg [.lit (.int .u8 128), .lit (.int .u8 143)], .agg [.lit (.int .u8 0), .lit (.int .u8 0)], .agg [.lit (.int .u8 0), .lit (.int .u8 0)], .agg [.lit (.int .u8 0), .lit (.int .u8 0)], .agg [.lit (.int .u8 0), .lit (.int .u8 0)], .agg [.lit (.int .u8 0), .lit (.int .u8 0)], .agg [.lit (.int .u8 0), .lit (.int .u8 0)], .agg [.lit (.int .u8 0), .lit (.int .u8 0)], .agg [.lit (.int .u8 0), .lit (.int .u8 0)], .agg [.lit (.int .u8 0), .lit (.int .u8 0)], .agg [.lit (.int .u8 0), .lit (.int .u8 0)], .agg [.lit (.int .u8 0), .lit (.int .u8 0)]]
/-- One of Go's own tables, pinned by name: the form's constant. -/
def laid_unicode_utf8_first : DataW Unit := Go.Pinned.utf8First

/-- 'chirographkeep.CoverShape': WHATEVER THE INPUT: true; the input reads as it did. -/
def coverShapeSpec : ChangeSpec := { name := "coverShape", fn := fun _ => fun
  | [d1, d2, d3] => { results := [.lit (.bool true)], args := [d1, d2, d3] }
  | _ => none }
def coverShapeRow : OpenClaim := { program := "ytokjeodlcilfpaadoor", sum := "83481a11cfc0238e01859c6597539ec417fbfce820ba27eb78b40c50bbe74253", func := "chirograph/chirographkeep.CoverShape", spec := "coverShape", unfollowed := true, recurses := true, named := ["chirograph/sum.steps"], apart := false, laid := [("chirograph/sum.steps", laid_chirograph_sum_steps)] }
def CoverShapeSaid : Prop := coverShapeRow.holds Tryd.pinned (OpenSpec.ofChange coverShapeSpec)

/-- ITS FALSE NEIGHBOUR: 'it returns false'. Refute it at one input. -/
def coverShapeWrong : ChangeSpec := { name := "coverShape", fn := fun _ => fun
  | [d1, d2, d3] => { results := [.lit (.bool false)], args := [d1, d2, d3] }
  | _ => none }
def CoverShapeWrongFalsely : Prop := coverShapeRow.holds Tryd.pinned (OpenSpec.ofChange coverShapeWrong)

/-- 'chirographkeep.CoverPath': WHATEVER THE INPUT: true; the input reads as it did. -/
def coverPathSpec : ChangeSpec := { name := "coverPath", fn := fun _ => fun
  | [d1, d2, d3] => { results := [.lit (.bool true)], args := [d1, d2, d3] }
  | _ => none }
def coverPathRow : OpenClaim := { program := "ytokjeodlcilfpaadoor", sum := "83481a11cfc0238e01859c6597539ec417fbfce820ba27eb78b40c50bbe74253", func := "chirograph/chirographkeep.CoverPath", spec := "coverPath", unfollowed := true, recurses := true, named := ["chirograph/sum.steps"], apart := false, laid := [("chirograph/sum.steps", laid_chirograph_sum_steps)] }
def CoverPathSaid : Prop := coverPathRow.holds Tryd.pinned (OpenSpec.ofChange coverPathSpec)

/-- ITS FALSE NEIGHBOUR: 'it returns false'. Refute it at one input. -/
def coverPathWrong : ChangeSpec := { name := "coverPath", fn := fun _ => fun
  | [d1, d2, d3] => { results := [.lit (.bool false)], args := [d1, d2, d3] }
  | _ => none }
def CoverPathWrongFalsely : Prop := coverPathRow.holds Tryd.pinned (OpenSpec.ofChange coverPathWrong)

/-- 'chirographkeep.CoverRight': WHATEVER THE INPUT: true; the input reads as it did. -/
def coverRightSpec : ChangeSpec := { name := "coverRight", fn := fun _ => fun
  | [d1, d2, d3] => { results := [.lit (.bool true)], args := [d1, d2, d3] }
  | _ => none }
def coverRightRow : OpenClaim := { program := "ytokjeodlcilfpaadoor", sum := "83481a11cfc0238e01859c6597539ec417fbfce820ba27eb78b40c50bbe74253", func := "chirograph/chirographkeep.CoverRight", spec := "coverRight", unfollowed := true, recurses := true, named := ["chirograph/sum.steps"], apart := false, laid := [("chirograph/sum.steps", laid_chirograph_sum_steps)] }
def CoverRightSaid : Prop := coverRightRow.holds Tryd.pinned (OpenSpec.ofChange coverRightSpec)

/-- ITS FALSE NEIGHBOUR: 'it returns false'. Refute it at one input. -/
def coverRightWrong : ChangeSpec := { name := "coverRight", fn := fun _ => fun
  | [d1, d2, d3] => { results := [.lit (.bool false)], args := [d1, d2, d3] }
  | _ => none }
def CoverRightWrongFalsely : Prop := coverRightRow.holds Tryd.pinned (OpenSpec.ofChange coverRightWrong)

/-- 'chirographkeep.CoverSound': WHATEVER THE INPUT: true; the input reads as it did. -/
def coverSoundSpec : ChangeSpec := { name := "coverSound", fn := fun _ => fun
  | [d1, d2, d3, d4] => { results := [.lit (.bool true)], args := [d1, d2, d3, d4] }
  | _ => none }
def coverSoundRow : OpenClaim := { program := "ytokjeodlcilfpaadoor", sum := "83481a11cfc0238e01859c6597539ec417fbfce820ba27eb78b40c50bbe74253", func := "chirograph/chirographkeep.CoverSound", spec := "coverSound", unfollowed := true, recurses := true, named := ["chirograph/sum.steps"], apart := false, laid := [("chirograph/sum.steps", laid_chirograph_sum_steps)] }
def CoverSoundSaid : Prop := coverSoundRow.holds Tryd.pinned (OpenSpec.ofChange coverSoundSpec)

/-- ITS FALSE NEIGHBOUR: 'it returns false'. Refute it at one input. -/
def coverSoundWrong : ChangeSpec := { name := "coverSound", fn := fun _ => fun
  | [d1, d2, d3, d4] => { results := [.lit (.bool false)], args := [d1, d2, d3, d4] }
  | _ => none }
def CoverSoundWrongFalsely : Prop := coverSoundRow.holds Tryd.pinned (OpenSpec.ofChange coverSoundWrong)

/-- 'chirographkeep.CodeBack': WHATEVER THE INPUT: true; the input reads as it did. -/
def codeBackSpec : ChangeSpec := { name := "codeBack", fn := fun _ => fun
  | [d1, d2] => { results := [.lit (.bool true)], args := [d1, d2] }
  | _ => none }
def codeBackRow : OpenClaim := { program := "ytokjeodlcilfpaadoor", sum := "83481a11cfc0238e01859c6597539ec417fbfce820ba27eb78b40c50bbe74253", func := "chirograph/chirographkeep.CodeBack", spec := "codeBack", inPlace := ["math.Float64frombits", "math.Float64bits"], unfollowed := true, recurses := true, named := ["unicode/utf8.first", "unicode/utf8.acceptRanges"], apart := false, laid := [("unicode/utf8.acceptRanges", laid_unicode_utf8_acceptRanges), ("unicode/utf8.first", laid_unicode_utf8_first)] }
def CodeBackSaid : Prop := codeBackRow.holds Tryd.pinned (OpenSpec.ofChange codeBackSpec)

/-- ITS FALSE NEIGHBOUR: 'it returns false'. Refute it at one input. -/
def codeBackWrong : ChangeSpec := { name := "codeBack", fn := fun _ => fun
  | [d1, d2] => { results := [.lit (.bool false)], args := [d1, d2] }
  | _ => none }
def CodeBackWrongFalsely : Prop := codeBackRow.holds Tryd.pinned (OpenSpec.ofChange codeBackWrong)

/-- 'chirographkeep.CodeFixed': WHATEVER THE INPUT: true; the input reads as it did. -/
def codeFixedSpec : ChangeSpec := { name := "codeFixed", fn := fun _ => fun
  | [d1, d2, d3] => { results := [.lit (.bool true)], args := [d1, d2, d3] }
  | _ => none }
def codeFixedRow : OpenClaim := { program := "ytokjeodlcilfpaadoor", sum := "83481a11cfc0238e01859c6597539ec417fbfce820ba27eb78b40c50bbe74253", func := "chirograph/chirographkeep.CodeFixed", spec := "codeFixed", inPlace := ["math.Float64frombits", "math.Float64bits"], unfollowed := true, recurses := true, named := ["unicode/utf8.first", "unicode/utf8.acceptRanges"], apart := false, laid := [("unicode/utf8.acceptRanges", laid_unicode_utf8_acceptRanges), ("unicode/utf8.first", laid_unicode_utf8_first)] }
def CodeFixedSaid : Prop := codeFixedRow.holds Tryd.pinned (OpenSpec.ofChange codeFixedSpec)

/-- ITS FALSE NEIGHBOUR: 'it returns false'. Refute it at one input. -/
def codeFixedWrong : ChangeSpec := { name := "codeFixed", fn := fun _ => fun
  | [d1, d2, d3] => { results := [.lit (.bool false)], args := [d1, d2, d3] }
  | _ => none }
def CodeFixedWrongFalsely : Prop := codeFixedRow.holds Tryd.pinned (OpenSpec.ofChange codeFixedWrong)

/-- 'chirographkeep.CodeApart': WHATEVER THE INPUT: true; the input reads as it did. -/
def codeApartSpec : ChangeSpec := { name := "codeApart", fn := fun _ => fun
  | [d1, d2, d3] => { results := [.lit (.bool true)], args := [d1, d2, d3] }
  | _ => none }
def codeApartRow : OpenClaim := { program := "ytokjeodlcilfpaadoor", sum := "83481a11cfc0238e01859c6597539ec417fbfce820ba27eb78b40c50bbe74253", func := "chirograph/chirographkeep.CodeApart", spec := "codeApart", inPlace := ["math.Float64frombits", "math.Float64bits"], unfollowed := true, recurses := true, named := ["unicode/utf8.first", "unicode/utf8.acceptRanges"], apart := false, laid := [("unicode/utf8.acceptRanges", laid_unicode_utf8_acceptRanges), ("unicode/utf8.first", laid_unicode_utf8_first)] }
def CodeApartSaid : Prop := codeApartRow.holds Tryd.pinned (OpenSpec.ofChange codeApartSpec)

/-- ITS FALSE NEIGHBOUR: 'it returns false'. Refute it at one input. -/
def codeApartWrong : ChangeSpec := { name := "codeApart", fn := fun _ => fun
  | [d1, d2, d3] => { results := [.lit (.bool false)], args := [d1, d2, d3] }
  | _ => none }
def CodeApartWrongFalsely : Prop := codeApartRow.holds Tryd.pinned (OpenSpec.ofChange codeApartWrong)

/-- 'chirographkeep.CodeJoins': WHATEVER THE INPUT: true; the input reads as it did. -/
def codeJoinsSpec : ChangeSpec := { name := "codeJoins", fn := fun _ => fun
  | [d1, d2] => { results := [.lit (.bool true)], args := [d1, d2] }
  | _ => none }
def codeJoinsRow : OpenClaim := { program := "ytokjeodlcilfpaadoor", sum := "83481a11cfc0238e01859c6597539ec417fbfce820ba27eb78b40c50bbe74253", func := "chirograph/chirographkeep.CodeJoins", spec := "codeJoins", inPlace := ["math.Float64frombits", "math.Float64bits"], unfollowed := true, recurses := true, named := ["unicode/utf8.first", "unicode/utf8.acceptRanges"], apart := false, laid := [("unicode/utf8.acceptRanges", laid_unicode_utf8_acceptRanges), ("unicode/utf8.first", laid_unicode_utf8_first)] }
def CodeJoinsSaid : Prop := codeJoinsRow.holds Tryd.pinned (OpenSpec.ofChange codeJoinsSpec)

/-- ITS FALSE NEIGHBOUR: 'it returns false'. Refute it at one input. -/
def codeJoinsWrong : ChangeSpec := { name := "codeJoins", fn := fun _ => fun
  | [d1, d2] => { results := [.lit (.bool false)], args := [d1, d2] }
  | _ => none }
def CodeJoinsWrongFalsely : Prop := codeJoinsRow.holds Tryd.pinned (OpenSpec.ofChange codeJoinsWrong)

/-- 'chirographkeep.CodeOrder': WHATEVER THE INPUT: true; the input reads as it did. -/
def codeOrderSpec : ChangeSpec := { name := "codeOrder", fn := fun _ => fun
  | [d1, d2, d3, d4] => { results := [.lit (.bool true)], args := [d1, d2, d3, d4] }
  | _ => none }
def codeOrderRow : OpenClaim := { program := "ytokjeodlcilfpaadoor", sum := "83481a11cfc0238e01859c6597539ec417fbfce820ba27eb78b40c50bbe74253", func := "chirograph/chirographkeep.CodeOrder", spec := "codeOrder", inPlace := ["math.Float64frombits", "math.Float64bits"], unfollowed := true, recurses := true, named := ["unicode/utf8.first", "unicode/utf8.acceptRanges"], apart := false, laid := [("unicode/utf8.acceptRanges", laid_unicode_utf8_acceptRanges), ("unicode/utf8.first", laid_unicode_utf8_first)] }
def CodeOrderSaid : Prop := codeOrderRow.holds Tryd.pinned (OpenSpec.ofChange codeOrderSpec)

/-- ITS FALSE NEIGHBOUR: 'it returns false'. Refute it at one input. -/
def codeOrderWrong : ChangeSpec := { name := "codeOrder", fn := fun _ => fun
  | [d1, d2, d3, d4] => { results := [.lit (.bool false)], args := [d1, d2, d3, d4] }
  | _ => none }
def CodeOrderWrongFalsely : Prop := codeOrderRow.holds Tryd.pinned (OpenSpec.ofChange codeOrderWrong)

/- THE SECOND FORM. 'bulk': how many values and letters a reading holds, each counted each time it is reached (what is shared counts as often as it is met; a slice's spare places count too). A statement '..UptoSaid' is the law's where the arguments, and the package variables that the reading takes, are together of bulk at most 1048576: NARROWER than '..Said'. Prove '..Said' where nothing that the law and all that it calls make is longer than what came in: it says more and counts as full. Else prove '..UptoSaid'. A law counts once. -/
mutual
def uptoBulk {H : Type} : DataW H → Nat
  | .lit (.string bytes) => bytes.length + 1
  | .lit _ => 1
  | .nil => 1
  | .ptr d => uptoBulk d + 1
  | .slice elems spare => uptoBulkAll elems + uptoBulkAll spare + 1
  | .agg parts => uptoBulkAll parts + 1
  | .iface _ d => uptoBulk d + 1
  | .map entries => uptoBulkEntries entries + 1
  | .held _ => 1
def uptoBulkAll {H : Type} : List (DataW H) → Nat
  | [] => 0
  | d :: r => uptoBulk d + uptoBulkAll r
def uptoBulkEntries {H : Type} : List (Lit × DataW H) → Nat
  | [] => 0
  | x :: r => uptoBulkEntry x + uptoBulkEntries r
def uptoBulkEntry {H : Type} : Lit × DataW H → Nat
  | (.string bytes, d) => bytes.length + uptoBulk d + 1
  | (_, d) => uptoBulk d + 1
 end
def uptoSmall : (H : Type) → List (DataW H) → Bool := fun _ ds => decide (uptoBulkAll ds ≤ 1048576)
def OpenSpec.upto (s : _root_.Go.ChangeSpec) : _root_.Go.OpenSpec := { _root_.Go.OpenSpec.ofChange s with cond := some uptoSmall }

/-- 'chirographkeep.CoverShape', WHERE WHAT IT READS IS OF BULK AT MOST 1048576: true; the input reads as it did. -/
def coverShapeUptoRow : OpenClaim := { program := "ytokjeodlcilfpaadoor", sum := "83481a11cfc0238e01859c6597539ec417fbfce820ba27eb78b40c50bbe74253", func := "chirograph/chirographkeep.CoverShape", spec := "coverShape", unfollowed := true, recurses := true, named := ["chirograph/sum.steps"], apart := false, laid := [("chirograph/sum.steps", laid_chirograph_sum_steps)], narrowed := true }
def CoverShapeUptoSaid : Prop := coverShapeUptoRow.holds Tryd.pinned (OpenSpec.upto coverShapeSpec)

/-- 'chirographkeep.CoverPath', WHERE WHAT IT READS IS OF BULK AT MOST 1048576: true; the input reads as it did. -/
def coverPathUptoRow : OpenClaim := { program := "ytokjeodlcilfpaadoor", sum := "83481a11cfc0238e01859c6597539ec417fbfce820ba27eb78b40c50bbe74253", func := "chirograph/chirographkeep.CoverPath", spec := "coverPath", unfollowed := true, recurses := true, named := ["chirograph/sum.steps"], apart := false, laid := [("chirograph/sum.steps", laid_chirograph_sum_steps)], narrowed := true }
def CoverPathUptoSaid : Prop := coverPathUptoRow.holds Tryd.pinned (OpenSpec.upto coverPathSpec)

/-- 'chirographkeep.CoverRight', WHERE WHAT IT READS IS OF BULK AT MOST 1048576: true; the input reads as it did. -/
def coverRightUptoRow : OpenClaim := { program := "ytokjeodlcilfpaadoor", sum := "83481a11cfc0238e01859c6597539ec417fbfce820ba27eb78b40c50bbe74253", func := "chirograph/chirographkeep.CoverRight", spec := "coverRight", unfollowed := true, recurses := true, named := ["chirograph/sum.steps"], apart := false, laid := [("chirograph/sum.steps", laid_chirograph_sum_steps)], narrowed := true }
def CoverRightUptoSaid : Prop := coverRightUptoRow.holds Tryd.pinned (OpenSpec.upto coverRightSpec)

/-- 'chirographkeep.CoverSound', WHERE WHAT IT READS IS OF BULK AT MOST 1048576: true; the input reads as it did. -/
def coverSoundUptoRow : OpenClaim := { program := "ytokjeodlcilfpaadoor", sum := "83481a11cfc0238e01859c6597539ec417fbfce820ba27eb78b40c50bbe74253", func := "chirograph/chirographkeep.CoverSound", spec := "coverSound", unfollowed := true, recurses := true, named := ["chirograph/sum.steps"], apart := false, laid := [("chirograph/sum.steps", laid_chirograph_sum_steps)], narrowed := true }
def CoverSoundUptoSaid : Prop := coverSoundUptoRow.holds Tryd.pinned (OpenSpec.upto coverSoundSpec)

/-- 'chirographkeep.CodeBack', WHERE WHAT IT READS IS OF BULK AT MOST 1048576: true; the input reads as it did. -/
def codeBackUptoRow : OpenClaim := { program := "ytokjeodlcilfpaadoor", sum := "83481a11cfc0238e01859c6597539ec417fbfce820ba27eb78b40c50bbe74253", func := "chirograph/chirographkeep.CodeBack", spec := "codeBack", inPlace := ["math.Float64frombits", "math.Float64bits"], unfollowed := true, recurses := true, named := ["unicode/utf8.first", "unicode/utf8.acceptRanges"], apart := false, laid := [("unicode/utf8.acceptRanges", laid_unicode_utf8_acceptRanges), ("unicode/utf8.first", laid_unicode_utf8_first)], narrowed := true }
def CodeBackUptoSaid : Prop := codeBackUptoRow.holds Tryd.pinned (OpenSpec.upto codeBackSpec)

/-- 'chirographkeep.CodeFixed', WHERE WHAT IT READS IS OF BULK AT MOST 1048576: true; the input reads as it did. -/
def codeFixedUptoRow : OpenClaim := { program := "ytokjeodlcilfpaadoor", sum := "83481a11cfc0238e01859c6597539ec417fbfce820ba27eb78b40c50bbe74253", func := "chirograph/chirographkeep.CodeFixed", spec := "codeFixed", inPlace := ["math.Float64frombits", "math.Float64bits"], unfollowed := true, recurses := true, named := ["unicode/utf8.first", "unicode/utf8.acceptRanges"], apart := false, laid := [("unicode/utf8.acceptRanges", laid_unicode_utf8_acceptRanges), ("unicode/utf8.first", laid_unicode_utf8_first)], narrowed := true }
def CodeFixedUptoSaid : Prop := codeFixedUptoRow.holds Tryd.pinned (OpenSpec.upto codeFixedSpec)

/-- 'chirographkeep.CodeApart', WHERE WHAT IT READS IS OF BULK AT MOST 1048576: true; the input reads as it did. -/
def codeApartUptoRow : OpenClaim := { program := "ytokjeodlcilfpaadoor", sum := "83481a11cfc0238e01859c6597539ec417fbfce820ba27eb78b40c50bbe74253", func := "chirograph/chirographkeep.CodeApart", spec := "codeApart", inPlace := ["math.Float64frombits", "math.Float64bits"], unfollowed := true, recurses := true, named := ["unicode/utf8.first", "unicode/utf8.acceptRanges"], apart := false, laid := [("unicode/utf8.acceptRanges", laid_unicode_utf8_acceptRanges), ("unicode/utf8.first", laid_unicode_utf8_first)], narrowed := true }
def CodeApartUptoSaid : Prop := codeApartUptoRow.holds Tryd.pinned (OpenSpec.upto codeApartSpec)

/-- 'chirographkeep.CodeJoins', WHERE WHAT IT READS IS OF BULK AT MOST 1048576: true; the input reads as it did. -/
def codeJoinsUptoRow : OpenClaim := { program := "ytokjeodlcilfpaadoor", sum := "83481a11cfc0238e01859c6597539ec417fbfce820ba27eb78b40c50bbe74253", func := "chirograph/chirographkeep.CodeJoins", spec := "codeJoins", inPlace := ["math.Float64frombits", "math.Float64bits"], unfollowed := true, recurses := true, named := ["unicode/utf8.first", "unicode/utf8.acceptRanges"], apart := false, laid := [("unicode/utf8.acceptRanges", laid_unicode_utf8_acceptRanges), ("unicode/utf8.first", laid_unicode_utf8_first)], narrowed := true }
def CodeJoinsUptoSaid : Prop := codeJoinsUptoRow.holds Tryd.pinned (OpenSpec.upto codeJoinsSpec)

/-- 'chirographkeep.CodeOrder', WHERE WHAT IT READS IS OF BULK AT MOST 1048576: true; the input reads as it did. -/
def codeOrderUptoRow : OpenClaim := { program := "ytokjeodlcilfpaadoor", sum := "83481a11cfc0238e01859c6597539ec417fbfce820ba27eb78b40c50bbe74253", func := "chirograph/chirographkeep.CodeOrder", spec := "codeOrder", inPlace := ["math.Float64frombits", "math.Float64bits"], unfollowed := true, recurses := true, named := ["unicode/utf8.first", "unicode/utf8.acceptRanges"], apart := false, laid := [("unicode/utf8.acceptRanges", laid_unicode_utf8_acceptRanges), ("unicode/utf8.first", laid_unicode_utf8_first)], narrowed := true }
def CodeOrderUptoSaid : Prop := codeOrderUptoRow.holds Tryd.pinned (OpenSpec.upto codeOrderSpec)

end Rows
end Go.Proofs.YtokjeodlcilfpaaDoor
