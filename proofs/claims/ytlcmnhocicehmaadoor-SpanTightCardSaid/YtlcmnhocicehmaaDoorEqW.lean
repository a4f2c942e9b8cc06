/- Two values: are they alike? Conditions: none. -/
import Derived.Test.YtlcmnhocicehmaaDoorEqV
import Derived.Test.YtlcmnhocicehmaaDoorExecT
import Derived.Laws.Strings
namespace Go.Proofs.YtlcmnhocicehmaaDoor.Vm
open Go Go.RowKit Go.Lib
set_option linter.unusedVariables false
set_option linter.unusedSimpArgs false
attribute [local irreducible] Ops Dr Run
section
variable {P : Program} {w : World}
theorem part_plainW {e : TypeId} (he : P.plainKey e = true) {xs : Array Value} {o : Nat} {v : Value} (h : xs[o]? = some v) : (part e xs o).run P w = .ok v w := run_part_plain w he h
theorem eqfW {d : Nat} {xs ys : Array Value} {f : Field} {fs : List Field} {a b : Value} {r r2 : Bool} (hn : (f.name == "_") = false) (ha : (part f.type xs f.offset).run P w = .ok a w) (hb : (part f.type ys f.offset).run P w = .ok b w) (he : (Op.equalIn d f.type a b).run P w = .ok r w) (hr : (Op.eqFields d xs ys fs).run P w = .ok r2 w) : (Op.eqFields d xs ys (f :: fs)).run P w = .ok (r && r2) w := by
  have hn' : f.name ≠ "_" := by simpa using hn
  rw [Op.eqFields]
  simp only [if_pos hn', Sem.run_bind, ha, hb, he, Result.andThen_ok]
  cases r
  · simp
  · simpa using hr
theorem eqSW {d : Nat} {xs ys : Array Value} {r : Bool} {t : TypeId} {fs : Array Field} (hu : P.underlying t = some (.struct fs)) (hp : P.stoodInHeld t = false) (h : (Op.eqFields d xs ys fs.toList).run P w = .ok r w) : (Op.equalIn (d + 1) t (.agg xs) (.agg ys)).run P w = .ok r w := by
  have hf : P.fieldsOf t = fs := by simp [Program.fieldsOf, hu]
  rw [run_equalIn_struct (P := P) w d t xs ys (by rw [hf]; exact hu) hp, hf]
  exact h
theorem eq_intW {e : TypeId} {k : IntKind} (he : P.underlying e = some (.int k)) (d : Nat) (z y : Int) : (Op.equalIn (d + 1) e (.int k z) (.int k y)).run P w = .ok (decide (z = y)) w := by
  rw [run_equalIn_int (P := P) w d e k k z y he]
  congr 1
end
section
variable {E : Env} {n : Nat} {tm : List (Nat × AV)} {bx : List (Nat × Box)} {ops : Array Oper} {l : List Oper} {d : Tmp} {ty : TypeId} {pos : String} {after : Array Edge}
end
theorem eq_strW {P : Program} {w : World} {e : TypeId} (he : P.underlying e = some .string) (d : Nat) (z y : ByteArray) : (Op.equalIn (d + 1) e (.string z) (.string y)).run P w = .ok (z.toList == y.toList) w := by
  rw [run_equalIn_string w d e z y he]
def sameV (v w : Vl) : Bool := decide (v.kd = w.kd) && (decide (v.n = w.n) && (decide (v.b = w.b) && ((v.s.toList == w.s.toList) && true)))
theorem eq_vlW (v w : Vl) (W : World) : (Op.equalIn 10000 25 (.agg [Value.int .i64 v.kd, .int .i64 v.n, .int .u64 v.b, .string v.s].toArray) (.agg [Value.int .i64 w.kd, .int .i64 w.n, .int .u64 w.b, .string w.s].toArray)).run Tryd.prog W = .ok (sameV v w) W := by
  refine eqSW (d := 9999) Tryd.underlying25 (by kernel_rfl) ?_
  unfold sameV
  refine eqfW rfl (part_plainW (by kernel_rfl) rfl) (part_plainW (by kernel_rfl) rfl) (eq_intW Tryd.underlying3 9998 _ _) ?_
  refine eqfW rfl (part_plainW (by kernel_rfl) rfl) (part_plainW (by kernel_rfl) rfl) (eq_intW Tryd.underlying3 9998 _ _) ?_
  refine eqfW rfl (part_plainW (by kernel_rfl) rfl) (part_plainW (by kernel_rfl) rfl) (eq_intW Tryd.underlying23 9998 _ _) ?_
  refine eqfW rfl (part_plainW (by kernel_rfl) rfl) (part_plainW (by kernel_rfl) rfl) (eq_strW Tryd.underlying9 9998 _ _) ?_
  rfl
/-- Two values compared. -/
def hEq (g : Nat → Option (List PV)) (v w : Vl) (c : Bool) : Hint (En Tryd.prog g) := .eq 25 _ _ (sameV v w) c (by kernel_rfl) (eq_vlW v w)
theorem sameV_iff {v w : Vl} : sameV v w = true ↔ v = w := by
  obtain ⟨a, b, c, s⟩ := v
  obtain ⟨a', b', c', s'⟩ := w
  unfold sameV
  simp only [Bool.and_eq_true, decide_eq_true_eq, and_true, Vl.mk.injEq, beq_iff_eq]
  refine and_congr Iff.rfl (and_congr Iff.rfl (and_congr Iff.rfl ?_))
  rw [ByteArray.toList_eq, ByteArray.toList_eq]
  constructor
  · intro h; exact ByteArray.ext (Array.toList_inj.1 h)
  · rintro rfl; rfl
theorem sameV_ne {v w : Vl} (h : v ≠ w) : sameV v w = false := by
  cases e : sameV v w with
  | false => rfl
  | true => exact absurd (sameV_iff.1 e) h
end Go.Proofs.YtlcmnhocicehmaaDoor.Vm
