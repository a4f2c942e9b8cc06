/- Contracts of the functions that make and compare values, for the value machine. Conditions: none beyond the tables of utf8. -/
import Derived.Test.YtcbdhdblchmofaaDoorVmEnv
import Derived.Test.YtcbdhdblchmofaaDoorVmQ
import Derived.Test.YtcbdhdblchmofaaDoorVals
namespace Go.Proofs.YtcbdhdblchmofaaDoor.Vm
open Go Go.RowKit Go.Proofs.YtcbdhdblchmofaaDoor.QOrderTurns Go.Proofs.YtcbdhdblchmofaaDoor.PureV Go.Proofs.YtcbdhdblchmofaaDoorW.PrintWords
abbrev rawA (kd a b : Int) (s : ByteArray) : AV := .agg [.pv (.int .i64 kd), .pv (.int .i64 a), .pv (.int .i64 b), .pv (.str s)]
abbrev valA (q n b : Int) (s : ByteArray) : AV := .agg [.pv (.int .i64 q), .pv (.int .i64 n), .pv (.int .u64 b), .pv (.str s)]
/-- The package variables of this program: the two tables of utf8. -/
def gT : Nat → Option (List PV) := tabsG (Tryd.laysValid_ren.g 3) (Tryd.laysValid_ren.g 4)
theorem tabsT {w : World} (h : Glo gT w) : Shelf.Tabs w := tabs_of rfl rfl h
theorem fnVal {g : Nat → Option (List PV)} {kd a b q n bt : Int} {s t : ByteArray} (h : Ev (fun k => chirographkeep_Val.f k kd a b s) (q, n, bt, t)) : FnC (En Tryd.prog g) 22 [rawA kd a b s] (valA q n bt t) [] := by
  obtain ⟨k, h⟩ := h
  exact FnC.kit Tryd.func22 rfl rfl rfl rfl rfl fun w _ => chirographkeep_Val.calls k kd a b s q n bt t w (h k (Nat.le_refl _))
theorem fnCompare {q n b : Int} {s : ByteArray} {q' n' b' : Int} {s' : ByteArray} (g : GoodV q n b s) (g' : GoodV q' n' b' s') : FnC (En Tryd.prog gT) 23 [valA q n b s, valA q' n' b' s'] (.tup [.pv (.int .i64 (cmp q n b s q' n' b' s')), .pv (.int .i64 0)]) [] := by
  obtain ⟨k, h⟩ := compare_ev g g'
  exact FnC.kit Tryd.func23 rfl rfl rfl rfl rfl fun w hg => value_Compare.calls k q n b s q' n' b' s' _ _ w (tabsT hg) (h k (Nat.le_refl _))
end Go.Proofs.YtcbdhdblchmofaaDoor.Vm
