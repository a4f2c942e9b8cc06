/-
  NARROWER THAN 'FOR EVERY INPUT', by the rows' own cells (each row's printed sentence says how): SumKnown: laid · SaltsApart: laid · SumParts: laid · OrderTurns: laid · OrderChain: laid · JustOne: laid · OpenTells: laid · PathRight: laid · IncludeRight: laid · ExtendRight: laid.
  DERIVED. THE GIVEN ROWS OF THIS SEAT. 10 by the template 'for every input the law returns true; each argument reads behind the call as it read before'; 0 by the template 'total and deterministic' (their statements: YtcbdhdblchmofaaDoorTotals.lean).
  GIVEN WITH THE SEED: the statements are not yours to turn. If you find one false, say at which input.
  Laid BY PROGRAM, IN A SANDBOX (cutbox-rows.mjs): the forced cells as the released guide's own fill.sh prints them over the translation fb380d3e5161ebfd… (all of the seat's roots in one cut). By AI agents, Wed Nov 11 2026. No macro, syntax, notation, axiom, sorry.
-/
import Derived.Test.YtcbdhdblchmofaaDoorChecked
import GoSem.PinnedTables
import GoSem.Claim
import GoSem.ClaimJoined
import GoSem.ClaimMapViews
import Derived.JoinedTies
import Derived.KernelRfl
namespace Go.Proofs.YtcbdhdblchmofaaDoor
/- THE CELL 'sum', in the pinned program and in every row, IS THE sha256 OF THE DUMP (.gsa) THAT YtcbdhdblchmofaaDoorProg.lean LOADS. Nothing in Lean hashes anything: it is a label: what it is worth is what the hold of that sum in a sandbox is worth. -/
noncomputable def Tryd.pinned : Pinned := { name := "ytcbdhdblchmofaadoor", sum := "fb380d3e5161ebfd4f412c8d1dff20abb5120d4e496b704c05549d208715c038", checked := Tryd.checked }
namespace Rows
def none {H : Type} : Left H := { results := [], args := [] }

/- WHAT THE LISTED PACKAGE-LEVEL VARIABLES READ AS WHEN THE CALL BEGINS. Each datum BY PROGRAM (the guide's laid-datum.mjs) off the statement by which the dump's own 'gosem.cut.vars' lays the variable. In a bare row this is a premise. The card (YtcbdhdblchmofaaDoorCards.lean) ties it to the program's text. -/
def laid_chirograph_sum_steps {H : Type} : DataW H := .agg [.lit (.int .u32 1116352408), .lit (.int .u32 1899447441), .lit (.int .u32 3049323471), .lit (.int .u32 3921009573), .lit (.int .u32 961987163), .lit (.int .u32 1508970993), .lit (.int .u32 2453635748), .lit (.int .u32 2870763221), .lit (.int .u32 3624381080), .lit (.int .u32 310598401), .lit (.int .u32 607225278), .lit (.int .u32 1426881987), .lit (.int .u32 1925078388), .lit (.int .u32 2162078206), .lit (.int .u32 2614888103), .lit (.int .u32 3248222580), .lit (.int .u32 3835390401), .lit (.int .u32 4022224774), .lit (.int .u32 264347078), .lit (.int .u32 604807628), .lit (.int .u32 770255983), .lit (.int .u32 1249150122), .lit (.int .u32 1555081692), .lit (.int .u32 1996064986), .lit (.int .u32 2554220882), .lit (.int .u32 2821834349), .lit (.int .u32 2952996808), .lit (.int .u32 3210313671), .lit (.int .u32 3336571891), .lit (.int .u32 3584528711), .lit (.int .u32 113926993), .lit (.int .u32 338241895), .lit (.int .u32 666307205), .lit (.int .u32 773529912), .lit (.int .u32 1294757372), .lit (.int .u32 1396182291), .lit (.int .u32 1695183700), .lit (.int .u32 1986661051), .lit (.int .u32 2177026350), .lit (.int .u32 2456956037), .lit (.int .u32 2730485921), .lit (.int .u32 2820302411), .lit (.int .u32 3259730800), .lit (.int .u32 3345764771), .lit (.int .u32 3516065817), .lit (.int .u32 3600352804), .lit (.int .u32 4094571909), .lit (.int .u32 275423344), .lit (.int .u32 430227734), .lit (.int .u32 506948616), .lit (.int .u32 659060556), .lit (.int .u32 883997877), .lit (.int .u32 958139571), .lit (.int .u32 1322822218), .lit (.int .u32 1537002063), .lit (.int .u32 1747873779), .lit (.int .u32 1955562222), .lit (.int .u32 2024104815), .lit (.int .u32 2227730452), .lit (.int .u32 2361852424), .lit (.int .u32 2428436474), .lit (.int .u32 2756734187), .lit (.int .u32 3204031479), .lit (.int .u32 3329325298)]
def laid_unicode_utf8_acceptRanges {H : Type} : DataW H := .agg [.agg [.lit (.int .u8 128), .lit (.int .u8 191)], .agg [.lit (.int .u8 160), .lit (.int .u8 191)], .agg [.lit (.int .u8 128), .lit (.int .u8 159)], .agg [.lit (.int .u8 144), .lit (.int .u8 191)], .agg [.lit (.int .u8 128), .lit (.int .u8 143)], .agg [.lit (.int .u8 0), .lit (.int .u8 0)], .agg [.lit (.int .u8 0), .lit (.int .u8 0)], .agg [.lit (.int .u8 0), .lit (.int .u8 0)], .agg [.lit (.int .u8 0), .lit (.int .u8 0)], .agg [.lit (.int .u8 0), .lit (.int .u8 0)], .agg [.lit (.int .u8 0), .lit (.int .u8 0)], .agg [.lit (.int .u8 0), .lit (.int .u8 0)], .agg [.lit (.int .u8 0), .lit (.int .u8 0)], .agg [.lit (.int .u8 0), .lit (.int .u8 0)], .agg [.lit (.int .u8 0), .lit (.int .u8 0)], .agg [.lit (.int .u8 0), .lit (.int .u8 0)]]
/-- One of Go's own tables, pinned by name: the form's constant. -/
def laid_unicode_utf8_first : DataW Unit := Go.Pinned.utf8First

/-- 'chirographkeep.SumKnown': WHATEVER THE INPUT: true; the input reads as it did. -/
def sumKnownSpec : ChangeSpec := { name := "sumKnown", fn := fun _ => fun
  | [d] => { results := [.lit (.bool true)], args := [d] }
  | _ => none }
def sumKnownRow : OpenClaim := { program := "ytcbdhdblchmofaadoor", sum := "fb380d3e5161ebfd4f412c8d1dff20abb5120d4e496b704c05549d208715c038", func := "chirograph/chirographkeep.SumKnown", spec := "sumKnown", named := ["chirograph/sum.steps"], apart := false, laid := [("chirograph/sum.steps", laid_chirograph_sum_steps)] }
def SumKnownSaid : Prop := sumKnownRow.holds Tryd.pinned (OpenSpec.ofChange sumKnownSpec)

/-- ITS FALSE NEIGHBOUR: 'it returns false'. Refute it at one input. -/
def sumKnownWrong : ChangeSpec := { name := "sumKnown", fn := fun _ => fun
  | [d] => { results := [.lit (.bool false)], args := [d] }
  | _ => none }
def SumKnownWrongFalsely : Prop := sumKnownRow.holds Tryd.pinned (OpenSpec.ofChange sumKnownWrong)

/-- 'chirographkeep.SaltsApart': WHATEVER THE INPUT: true; the input reads as it did. -/
def saltsApartSpec : ChangeSpec := { name := "saltsApart", fn := fun _ => fun
  | [d1, d2, d3, d4, d5] => { results := [.lit (.bool true)], args := [d1, d2, d3, d4, d5] }
  | _ => none }
def saltsApartRow : OpenClaim := { program := "ytcbdhdblchmofaadoor", sum := "fb380d3e5161ebfd4f412c8d1dff20abb5120d4e496b704c05549d208715c038", func := "chirograph/chirographkeep.SaltsApart", spec := "saltsApart", named := ["chirograph/sum.steps"], apart := false, laid := [("chirograph/sum.steps", laid_chirograph_sum_steps)] }
def SaltsApartSaid : Prop := saltsApartRow.holds Tryd.pinned (OpenSpec.ofChange saltsApartSpec)

/-- ITS FALSE NEIGHBOUR: 'it returns false'. Refute it at one input. -/
def saltsApartWrong : ChangeSpec := { name := "saltsApart", fn := fun _ => fun
  | [d1, d2, d3, d4, d5] => { results := [.lit (.bool false)], args := [d1, d2, d3, d4, d5] }
  | _ => none }
def SaltsApartWrongFalsely : Prop := saltsApartRow.holds Tryd.pinned (OpenSpec.ofChange saltsApartWrong)

/-- 'chirographkeep.SumParts': WHATEVER THE INPUT: true; the input reads as it did. -/
def sumPartsSpec : ChangeSpec := { name := "sumParts", fn := fun _ => fun
  | [d1, d2, d3] => { results := [.lit (.bool true)], args := [d1, d2, d3] }
  | _ => none }
def sumPartsRow : OpenClaim := { program := "ytcbdhdblchmofaadoor", sum := "fb380d3e5161ebfd4f412c8d1dff20abb5120d4e496b704c05549d208715c038", func := "chirograph/chirographkeep.SumParts", spec := "sumParts", named := ["chirograph/sum.steps"], apart := false, laid := [("chirograph/sum.steps", laid_chirograph_sum_steps)] }
def SumPartsSaid : Prop := sumPartsRow.holds Tryd.pinned (OpenSpec.ofChange sumPartsSpec)

/-- ITS FALSE NEIGHBOUR: 'it returns false'. Refute it at one input. -/
def sumPartsWrong : ChangeSpec := { name := "sumParts", fn := fun _ => fun
  | [d1, d2, d3] => { results := [.lit (.bool false)], args := [d1, d2, d3] }
  | _ => none }
def SumPartsWrongFalsely : Prop := sumPartsRow.holds Tryd.pinned (OpenSpec.ofChange sumPartsWrong)

/-- 'chirographkeep.OrderTurns': WHATEVER THE INPUT: true; the input reads as it did. -/
def orderTurnsSpec : ChangeSpec := { name := "orderTurns", fn := fun _ => fun
  | [d1, d2] => { results := [.lit (.bool true)], args := [d1, d2] }
  | _ => none }
def orderTurnsRow : OpenClaim := { program := "ytcbdhdblchmofaadoor", sum := "fb380d3e5161ebfd4f412c8d1dff20abb5120d4e496b704c05549d208715c038", func := "chirograph/chirographkeep.OrderTurns", spec := "orderTurns", inPlace := ["math.Float64frombits", "math.Float64bits"], named := ["unicode/utf8.first", "unicode/utf8.acceptRanges"], apart := false, laid := [("unicode/utf8.acceptRanges", laid_unicode_utf8_acceptRanges), ("unicode/utf8.first", laid_unicode_utf8_first)] }
def OrderTurnsSaid : Prop := orderTurnsRow.holds Tryd.pinned (OpenSpec.ofChange orderTurnsSpec)

/-- ITS FALSE NEIGHBOUR: 'it returns false'. Refute it at one input. -/
def orderTurnsWrong : ChangeSpec := { name := "orderTurns", fn := fun _ => fun
  | [d1, d2] => { results := [.lit (.bool false)], args := [d1, d2] }
  | _ => none }
def OrderTurnsWrongFalsely : Prop := orderTurnsRow.holds Tryd.pinned (OpenSpec.ofChange orderTurnsWrong)

/-- 'chirographkeep.OrderChain': WHATEVER THE INPUT: true; the input reads as it did. -/
def orderChainSpec : ChangeSpec := { name := "orderChain", fn := fun _ => fun
  | [d1, d2, d3] => { results := [.lit (.bool true)], args := [d1, d2, d3] }
  | _ => none }
def orderChainRow : OpenClaim := { program := "ytcbdhdblchmofaadoor", sum := "fb380d3e5161ebfd4f412c8d1dff20abb5120d4e496b704c05549d208715c038", func := "chirograph/chirographkeep.OrderChain", spec := "orderChain", inPlace := ["math.Float64frombits", "math.Float64bits"], named := ["unicode/utf8.first", "unicode/utf8.acceptRanges"], apart := false, laid := [("unicode/utf8.acceptRanges", laid_unicode_utf8_acceptRanges), ("unicode/utf8.first", laid_unicode_utf8_first)] }
def OrderChainSaid : Prop := orderChainRow.holds Tryd.pinned (OpenSpec.ofChange orderChainSpec)

/-- ITS FALSE NEIGHBOUR: 'it returns false'. Refute it at one input. -/
def orderChainWrong : ChangeSpec := { name := "orderChain", fn := fun _ => fun
  | [d1, d2, d3] => { results := [.lit (.bool false)], args := [d1, d2, d3] }
  | _ => none }
def OrderChainWrongFalsely : Prop := orderChainRow.holds Tryd.pinned (OpenSpec.ofChange orderChainWrong)

/-- 'chirographkeep.JustOne': WHATEVER THE INPUT: true; the input reads as it did. -/
def justOneSpec : ChangeSpec := { name := "justOne", fn := fun _ => fun
  | [d1, d2, d3] => { results := [.lit (.bool true)], args := [d1, d2, d3] }
  | _ => none }
def justOneRow : OpenClaim := { program := "ytcbdhdblchmofaadoor", sum := "fb380d3e5161ebfd4f412c8d1dff20abb5120d4e496b704c05549d208715c038", func := "chirograph/chirographkeep.JustOne", spec := "justOne", inPlace := ["math.Float64frombits", "math.Float64bits"], unfollowed := true, recurses := true, named := ["unicode/utf8.first", "unicode/utf8.acceptRanges"], apart := false, laid := [("unicode/utf8.acceptRanges", laid_unicode_utf8_acceptRanges), ("unicode/utf8.first", laid_unicode_utf8_first)] }
def JustOneSaid : Prop := justOneRow.holds Tryd.pinned (OpenSpec.ofChange justOneSpec)

/-- ITS FALSE NEIGHBOUR: 'it returns false'. Refute it at one input. -/
def justOneWrong : ChangeSpec := { name := "justOne", fn := fun _ => fun
  | [d1, d2, d3] => { results := [.lit (.bool false)], args := [d1, d2, d3] }
  | _ => none }
def JustOneWrongFalsely : Prop := justOneRow.holds Tryd.pinned (OpenSpec.ofChange justOneWrong)

/-- 'chirographkeep.OpenTells': WHATEVER THE INPUT: true; the input reads as it did. -/
def openTellsSpec : ChangeSpec := { name := "openTells", fn := fun _ => fun
  | [d1, d2] => { results := [.lit (.bool true)], args := [d1, d2] }
  | _ => none }
def openTellsRow : OpenClaim := { program := "ytcbdhdblchmofaadoor", sum := "fb380d3e5161ebfd4f412c8d1dff20abb5120d4e496b704c05549d208715c038", func := "chirograph/chirographkeep.OpenTells", spec := "openTells", named := ["chirograph/sum.steps"], apart := false, laid := [("chirograph/sum.steps", laid_chirograph_sum_steps)] }
def OpenTellsSaid : Prop := openTellsRow.holds Tryd.pinned (OpenSpec.ofChange openTellsSpec)

/-- ITS FALSE NEIGHBOUR: 'it returns false'. Refute it at one input. -/
def openTellsWrong : ChangeSpec := { name := "openTells", fn := fun _ => fun
  | [d1, d2] => { results := [.lit (.bool false)], args := [d1, d2] }
  | _ => none }
def OpenTellsWrongFalsely : Prop := openTellsRow.holds Tryd.pinned (OpenSpec.ofChange openTellsWrong)

/-- 'chirographkeep.PathRight': WHATEVER THE INPUT: true; the input reads as it did. -/
def pathRightSpec : ChangeSpec := { name := "pathRight", fn := fun _ => fun
  | [d1, d2, d3] => { results := [.lit (.bool true)], args := [d1, d2, d3] }
  | _ => none }
def pathRightRow : OpenClaim := { program := "ytcbdhdblchmofaadoor", sum := "fb380d3e5161ebfd4f412c8d1dff20abb5120d4e496b704c05549d208715c038", func := "chirograph/chirographkeep.PathRight", spec := "pathRight", named := ["chirograph/sum.steps"], apart := false, laid := [("chirograph/sum.steps", laid_chirograph_sum_steps)] }
def PathRightSaid : Prop := pathRightRow.holds Tryd.pinned (OpenSpec.ofChange pathRightSpec)

/-- ITS FALSE NEIGHBOUR: 'it returns false'. Refute it at one input. -/
def pathRightWrong : ChangeSpec := { name := "pathRight", fn := fun _ => fun
  | [d1, d2, d3] => { results := [.lit (.bool false)], args := [d1, d2, d3] }
  | _ => none }
def PathRightWrongFalsely : Prop := pathRightRow.holds Tryd.pinned (OpenSpec.ofChange pathRightWrong)

/-- 'chirographkeep.IncludeRight': WHATEVER THE INPUT: true; the input reads as it did. -/
def includeRightSpec : ChangeSpec := { name := "includeRight", fn := fun _ => fun
  | [d1, d2, d3] => { results := [.lit (.bool true)], args := [d1, d2, d3] }
  | _ => none }
def includeRightRow : OpenClaim := { program := "ytcbdhdblchmofaadoor", sum := "fb380d3e5161ebfd4f412c8d1dff20abb5120d4e496b704c05549d208715c038", func := "chirograph/chirographkeep.IncludeRight", spec := "includeRight", recurses := true, named := ["chirograph/sum.steps"], apart := false, laid := [("chirograph/sum.steps", laid_chirograph_sum_steps)] }
def IncludeRightSaid : Prop := includeRightRow.holds Tryd.pinned (OpenSpec.ofChange includeRightSpec)

/-- ITS FALSE NEIGHBOUR: 'it returns false'. Refute it at one input. -/
def includeRightWrong : ChangeSpec := { name := "includeRight", fn := fun _ => fun
  | [d1, d2, d3] => { results := [.lit (.bool false)], args := [d1, d2, d3] }
  | _ => none }
def IncludeRightWrongFalsely : Prop := includeRightRow.holds Tryd.pinned (OpenSpec.ofChange includeRightWrong)

/-- 'chirographkeep.ExtendRight': WHATEVER THE INPUT: true; the input reads as it did. -/
def extendRightSpec : ChangeSpec := { name := "extendRight", fn := fun _ => fun
  | [d1, d2, d3] => { results := [.lit (.bool true)], args := [d1, d2, d3] }
  | _ => none }
def extendRightRow : OpenClaim := { program := "ytcbdhdblchmofaadoor", sum := "fb380d3e5161ebfd4f412c8d1dff20abb5120d4e496b704c05549d208715c038", func := "chirograph/chirographkeep.ExtendRight", spec := "extendRight", recurses := true, named := ["chirograph/sum.steps"], apart := false, laid := [("chirograph/sum.steps", laid_chirograph_sum_steps)] }
def ExtendRightSaid : Prop := extendRightRow.holds Tryd.pinned (OpenSpec.ofChange extendRightSpec)

/-- ITS FALSE NEIGHBOUR: 'it returns false'. Refute it at one input. -/
def extendRightWrong : ChangeSpec := { name := "extendRight", fn := fun _ => fun
  | [d1, d2, d3] => { results := [.lit (.bool false)], args := [d1, d2, d3] }
  | _ => none }
def ExtendRightWrongFalsely : Prop := extendRightRow.holds Tryd.pinned (OpenSpec.ofChange extendRightWrong)

/- THE SECOND FORM. 'bulk': how many values and letters a reading holds, each counted each time it is reached (what is shared counts as often as it is met; a slice's spare places count too). A statement '..UptoSaid' is the law's where the arguments, and the package variables that the reading takes, are together of bulk at most 1048576: NARROWER than '..Said'. Prove '..Said' where nothing that the law and all that it calls make is longer than what came in: it says more and counts as full. Else prove '..UptoSaid'. A law counts once. -/
mutual
def uptoBulk {H : Type} : DataW H → Nat
  | .lit (.string bytes) => bytes.length + 1
  | .lit _ => 1
  | .nil => 1
  | .ptr d => uptoBulk d + 1
  | .slice elems spare => uptoBulkAll elems + uptoBulkAll spare + 1
  | .agg parts => uptoBulkAll parts + 1
  | .iface _ d => uptoBulk d + 1
  | .map entries => uptoBulkEntries entries + 1
  | .held _ => 1
def uptoBulkAll {H : Type} : List (DataW H) → Nat
  | [] => 0
  | d :: r => uptoBulk d + uptoBulkAll r
def uptoBulkEntries {H : Type} : List (Lit × DataW H) → Nat
  | [] => 0
  | x :: r => uptoBulkEntry x + uptoBulkEntries r
def uptoBulkEntry {H : Type} : Lit × DataW H → Nat
  | (.string bytes, d) => bytes.length + uptoBulk d + 1
  | (_, d) => uptoBulk d + 1
 end
def uptoSmall : (H : Type) → List (DataW H) → Bool := fun _ ds => decide (uptoBulkAll ds ≤ 1048576)
def OpenSpec.upto (s : _root_.Go.ChangeSpec) : _root_.Go.OpenSpec := { _root_.Go.OpenSpec.ofChange s with cond := some uptoSmall }

/-- 'chirographkeep.SumKnown', WHERE WHAT IT READS IS OF BULK AT MOST 1048576: true; the input reads as it did. -/
def sumKnownUptoRow : OpenClaim := { program := "ytcbdhdblchmofaadoor", sum := "fb380d3e5161ebfd4f412c8d1dff20abb5120d4e496b704c05549d208715c038", func := "chirograph/chirographkeep.SumKnown", spec := "sumKnown", named := ["chirograph/sum.steps"], apart := false, laid := [("chirograph/sum.steps", laid_chirograph_sum_steps)], narrowed := true }
def SumKnownUptoSaid : Prop := sumKnownUptoRow.holds Tryd.pinned (OpenSpec.upto sumKnownSpec)

/-- 'chirographkeep.SaltsApart', WHERE WHAT IT READS IS OF BULK AT MOST 1048576: true; the input reads as it did. -/
def saltsApartUptoRow : OpenClaim := { program := "ytcbdhdblchmofaadoor", sum := "fb380d3e5161ebfd4f412c8d1dff20abb5120d4e496b704c05549d208715c038", func := "chirograph/chirographkeep.SaltsApart", spec := "saltsApart", named := ["chirograph/sum.steps"], apart := false, laid := [("chirograph/sum.steps", laid_chirograph_sum_steps)], narrowed := true }
def SaltsApartUptoSaid : Prop := saltsApartUptoRow.holds Tryd.pinned (OpenSpec.upto saltsApartSpec)

/-- 'chirographkeep.SumParts', WHERE WHAT IT READS IS OF BULK AT MOST 1048576: true; the input reads as it did. -/
def sumPartsUptoRow : OpenClaim := { program := "ytcbdhdblchmofaadoor", sum := "fb380d3e5161ebfd4f412c8d1dff20abb5120d4e496b704c05549d208715c038", func := "chirograph/chirographkeep.SumParts", spec := "sumParts", named := ["chirograph/sum.steps"], apart := false, laid := [("chirograph/sum.steps", laid_chirograph_sum_steps)], narrowed := true }
def SumPartsUptoSaid : Prop := sumPartsUptoRow.holds Tryd.pinned (OpenSpec.upto sumPartsSpec)

/-- 'chirographkeep.OrderTurns', WHERE WHAT IT READS IS OF BULK AT MOST 1048576: true; the input reads as it did. -/
def orderTurnsUptoRow : OpenClaim := { program := "ytcbdhdblchmofaadoor", sum := "fb380d3e5161ebfd4f412c8d1dff20abb5120d4e496b704c05549d208715c038", func := "chirograph/chirographkeep.OrderTurns", spec := "orderTurns", inPlace := ["math.Float64frombits", "math.Float64bits"], named := ["unicode/utf8.first", "unicode/utf8.acceptRanges"], apart := false, laid := [("unicode/utf8.acceptRanges", laid_unicode_utf8_acceptRanges), ("unicode/utf8.first", laid_unicode_utf8_first)], narrowed := true }
def OrderTurnsUptoSaid : Prop := orderTurnsUptoRow.holds Tryd.pinned (OpenSpec.upto orderTurnsSpec)

/-- 'chirographkeep.OrderChain', WHERE WHAT IT READS IS OF BULK AT MOST 1048576: true; the input reads as it did. -/
def orderChainUptoRow : OpenClaim := { program := "ytcbdhdblchmofaadoor", sum := "fb380d3e5161ebfd4f412c8d1dff20abb5120d4e496b704c05549d208715c038", func := "chirograph/chirographkeep.OrderChain", spec := "orderChain", inPlace := ["math.Float64frombits", "math.Float64bits"], named := ["unicode/utf8.first", "unicode/utf8.acceptRanges"], apart := false, laid := [("unicode/utf8.acceptRanges", laid_unicode_utf8_acceptRanges), ("unicode/utf8.first", laid_unicode_utf8_first)], narrowed := true }
def OrderChainUptoSaid : Prop := orderChainUptoRow.holds Tryd.pinned (OpenSpec.upto orderChainSpec)

/-- 'chirographkeep.JustOne', WHERE WHAT IT READS IS OF BULK AT MOST 1048576: true; the input reads as it did. -/
def justOneUptoRow : OpenClaim := { program := "ytcbdhdblchmofaadoor", sum := "fb380d3e5161ebfd4f412c8d1dff20abb5120d4e496b704c05549d208715c038", func := "chirograph/chirographkeep.JustOne", spec := "justOne", inPlace := ["math.Float64frombits", "math.Float64bits"], unfollowed := true, recurses := true, named := ["unicode/utf8.first", "unicode/utf8.acceptRanges"], apart := false, laid := [("unicode/utf8.acceptRanges", laid_unicode_utf8_acceptRanges), ("unicode/utf8.first", laid_unicode_utf8_first)], narrowed := true }
def JustOneUptoSaid : Prop := justOneUptoRow.holds Tryd.pinned (OpenSpec.upto justOneSpec)

/-- 'chirographkeep.OpenTells', WHERE WHAT IT READS IS OF BULK AT MOST 1048576: true; the input reads as it did. -/
def openTellsUptoRow : OpenClaim := { program := "ytcbdhdblchmofaadoor", sum := "fb380d3e5161ebfd4f412c8d1dff20abb5120d4e496b704c05549d208715c038", func := "chirograph/chirographkeep.OpenTells", spec := "openTells", named := ["chirograph/sum.steps"], apart := false, laid := [("chirograph/sum.steps", laid_chirograph_sum_steps)], narrowed := true }
def OpenTellsUptoSaid : Prop := openTellsUptoRow.holds Tryd.pinned (OpenSpec.upto openTellsSpec)

/-- 'chirographkeep.PathRight', WHERE WHAT IT READS IS OF BULK AT MOST 1048576: true; the input reads as it did. -/
def pathRightUptoRow : OpenClaim := { program := "ytcbdhdblchmofaadoor", sum := "fb380d3e5161ebfd4f412c8d1dff20abb5120d4e496b704c05549d208715c038", func := "chirograph/chirographkeep.PathRight", spec := "pathRight", named := ["chirograph/sum.steps"], apart := false, laid := [("chirograph/sum.steps", laid_chirograph_sum_steps)], narrowed := true }
def PathRightUptoSaid : Prop := pathRightUptoRow.holds Tryd.pinned (OpenSpec.upto pathRightSpec)

/-- 'chirographkeep.IncludeRight', WHERE WHAT IT READS IS OF BULK AT MOST 1048576: true; the input reads as it did. -/
def includeRightUptoRow : OpenClaim := { program := "ytcbdhdblchmofaadoor", sum := "fb380d3e5161ebfd4f412c8d1dff20abb5120d4e496b704c05549d208715c038", func := "chirograph/chirographkeep.IncludeRight", spec := "includeRight", recurses := true, named := ["chirograph/sum.steps"], apart := false, laid := [("chirograph/sum.steps", laid_chirograph_sum_steps)], narrowed := true }
def IncludeRightUptoSaid : Prop := includeRightUptoRow.holds Tryd.pinned (OpenSpec.upto includeRightSpec)

/-- 'chirographkeep.ExtendRight', WHERE WHAT IT READS IS OF BULK AT MOST 1048576: true; the input reads as it did. -/
def extendRightUptoRow : OpenClaim := { program := "ytcbdhdblchmofaadoor", sum := "fb380d3e5161ebfd4f412c8d1dff20abb5120d4e496b704c05549d208715c038", func := "chirograph/chirographkeep.ExtendRight", spec := "extendRight", recurses := true, named := ["chirograph/sum.steps"], apart := false, laid := [("chirograph/sum.steps", laid_chirograph_sum_steps)], narrowed := true }
def ExtendRightUptoSaid : Prop := extendRightUptoRow.holds Tryd.pinned (OpenSpec.upto extendRightSpec)

end Rows
end Go.Proofs.YtcbdhdblchmofaaDoor
