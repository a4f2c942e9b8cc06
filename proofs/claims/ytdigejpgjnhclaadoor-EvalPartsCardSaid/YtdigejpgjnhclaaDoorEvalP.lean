/- What is done to values in an expression, told plainly. Conditions: none. -/
import Derived.Test.YtdigejpgjnhclaaDoorKindQ
import Derived.Lib.RuneCount
namespace Go.Proofs.YtdigejpgjnhclaaDoor.Vm
open Go Go.RowKit Go.Lib
set_option linter.unusedVariables false
set_option linter.unusedSimpArgs false
def vB (b : Bool) : Vl := ⟨1, if b then 1 else 0, 0, noS⟩
def vN (n : Int) : Vl := ⟨2, n, 0, noS⟩
def vS (s : ByteArray) : Vl := ⟨4, 0, 0, s⟩
/-- The value that a part of truth is. -/
def tru (t : Int) : Vl := if t = 1 then v0 else ⟨1, t / 2, 0, noS⟩
def prt (v : Vl) : Int := if v.kd = 0 then 1 else 2 * v.n
def minP (a b : Int) : Int := if b < a then b else a
def maxP (a b : Int) : Int := if a < b then b else a
def inR (n : Int) : Prop := -9223372036854775808 ≤ n ∧ n ≤ 9223372036854775807
instance (n : Int) : Decidable (inR n) := by unfold inR; infer_instance
/-- What is done to one value. -/
def one1 (op : Int) (v : Vl) : Vl × Int :=
  if op = 17 then (vB (decide (v.kd = 0)), 0) else if v.kd = 0 then (v0, 0) else if op = 4 then (⟨1, 1 - v.n, 0, noS⟩, 0) else if op = 18 then (vN (Lib.runeCount v.s), 0) else if v.n = -9223372036854775808 then (v0, 6) else (vN (-v.n), 0)
/-- Numbers reckoned. -/
def reck (op a b : Int) : Vl × Int :=
  if op = 5 then (if inR (a + b) then (vN (a + b), 0) else (v0, 6)) else if op = 6 then (if inR (a - b) then (vN (a - b), 0) else (v0, 6)) else if op = 7 then (if inR (a * b) then (vN (a * b), 0) else (v0, 6))
  else if b = 0 then (v0, 7) else if inR (a.tdiv b) then (vN (a.tdiv b), 0) else (v0, 6)
def joinP (s t : ByteArray) : Vl × Int := if 40 < s.size + t.size then (v0, 1) else (vS (s ++ t), 0)
theorem wrap_eq {n m : Int} (k : Int) (h : n = m + 18446744073709551616 * k) (hm : inR m) : IntKind.i64.wrap n = m := by
  unfold inR at hm
  rw [IntKind.wrap_i64]
  omega
theorem wrap_in (n : Int) : inR (IntKind.i64.wrap n) ∧ ∃ k, n = IntKind.i64.wrap n + 18446744073709551616 * k := by
  rw [IntKind.wrap_i64]
  unfold inR
  refine ⟨by omega, (n + 9223372036854775808) / 18446744073709551616, by omega⟩
theorem wrap_id {n : Int} (h : inR n) : IntKind.i64.wrap n = n := wrap_eq 0 (by omega) h
theorem tdiv_in {a b : Int} (ha : inR a) (hb : b ≠ 0) (hx : ¬ (a = -9223372036854775808 ∧ b = -1)) : inR (a.tdiv b) := by
  unfold inR at *
  have h1 := Int.natAbs_tdiv_le_natAbs a b
  by_cases hab : a = -9223372036854775808
  · have hb1 : b ≠ -1 := fun e => hx ⟨hab, e⟩
    by_cases hb2 : b = 1
    · subst hb2; rw [Int.tdiv_one]; exact ha
    · have h2 : (a.tdiv b).natAbs = a.natAbs / b.natAbs := Int.natAbs_tdiv a b
      have h3 : 2 ≤ b.natAbs := by omega
      have h4 : a.natAbs / b.natAbs ≤ a.natAbs / 2 := Nat.div_le_div_left h3 (by omega)
      omega
  · omega
theorem mul_ok {a b : Int} (ha : inR a) (hb : b ≠ 0) : IntKind.i64.wrap ((a * b).tdiv b) = a := by
  rw [Int.mul_tdiv_cancel _ hb]
  exact wrap_id ha
theorem mul_bad {a b : Int} (ha : inR a) (hb : inR b) (hb0 : b ≠ 0) (hn : ¬ inR (a * b)) (h1 : ¬ (b = -1 ∧ a = -9223372036854775808)) : IntKind.i64.wrap ((IntKind.i64.wrap (a * b)).tdiv b) ≠ a := by
  obtain ⟨hw, k, hk⟩ := wrap_in (a * b)
  generalize IntKind.i64.wrap (a * b) = W at *
  intro he
  have hk0 : k ≠ 0 := fun e => by
    subst e
    rw [Int.mul_zero, Int.add_zero] at hk
    rw [hk] at hn
    exact hn hw
  by_cases hx : W = -9223372036854775808 ∧ b = -1
  · obtain ⟨rfl, rfl⟩ := hx
    have h2 : (-9223372036854775808 : Int).tdiv (-1) = 9223372036854775808 := by decide
    rw [h2] at he
    have h3 : IntKind.i64.wrap 9223372036854775808 = -9223372036854775808 := by rw [IntKind.wrap_i64]; decide
    rw [h3] at he
    exact h1 ⟨rfl, he.symm⟩
  · rw [wrap_id (tdiv_in hw hb0 hx)] at he
    have h2 := Int.mul_tdiv_add_tmod W b
    rw [he] at h2
    have h3 : (W.tmod b).natAbs < b.natAbs := by
      rw [Int.natAbs_tmod]
      exact Nat.mod_lt _ (by omega)
    rw [Int.mul_comm] at h2
    unfold inR at hb
    omega
end Go.Proofs.YtdigejpgjnhclaaDoor.Vm
