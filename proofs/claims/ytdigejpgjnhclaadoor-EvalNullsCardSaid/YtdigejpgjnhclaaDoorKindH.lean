/- Heaps of raw things: a leaf of an expression, the columns, a heap made. Conditions: none. -/
import Derived.Test.YtdigejpgjnhclaaDoorKindG
namespace Go.Proofs.YtdigejpgjnhclaaDoor.Vm
open Go Go.RowKit Go.Lib
set_option linter.unusedVariables false
set_option linter.unusedSimpArgs false
attribute [local irreducible] Ops Dr Run
/-- A function to which boxes are lent, of which some result is told. -/
theorem FnL.ofEx {E : Env} {f : FuncId} {fn : Func} {c : Code} {args : List AV} {bi bo : List (Nat × Box)} {tm : List (Nat × AV)} {Q : AV → Prop} (hf : E.P.funcs[f]? = some fn) (hc : fn.body = some c) (hname : (fn.name == "runtime.NumGoroutine") = false) (hn : Nat.ble args.length fn.ntmps = true) (htm : params 0 args = tm)
    (h : Run E.P E.g c ⟨fn.ntmps, tm, bi⟩ (fun x s => ∃ r, Q r ∧ Ends E.P fn r bo x s)) : ∃ r, Q r ∧ FnL E f args bi r bo := by
  obtain ⟨x, s', h1, r, hq, he⟩ := (show ∃ x s', _ from by unfold Run at h; exact h)
  exact ⟨r, hq, FnL.of hf hc hname hn htm (by unfold Run; exact ⟨x, s', h1, he⟩)⟩
section
variable {E : Env} {n : Nat} {tm : List (Nat × AV)} {bx : List (Nat × Box)} {ops : Array Oper} {l : List Oper} {d : Tmp} {ty : TypeId} {pos : String} {after : Array Edge}
end
variable {g : Nat → Option (List PV)}
theorem good_int {v : Vl} (h : Good v) (hk : v.kd = 2) : ∃ n, v = ⟨2, n, 0, noS⟩ ∧ (-9223372036854775808 ≤ n ∧ n ≤ 9223372036854775807) := by
  cases h with
  | int n hn => exact ⟨n, rfl, hn⟩
  | null => cases hk
  | bool => cases hk
  | real => cases hk
  | text => cases hk
end Go.Proofs.YtdigejpgjnhclaaDoor.Vm
