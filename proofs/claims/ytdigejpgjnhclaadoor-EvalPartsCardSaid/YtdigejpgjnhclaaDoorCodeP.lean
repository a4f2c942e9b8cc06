/- Values: what may be, the runes of a cleaned text, the bits of a real. Conditions: none. -/
import Derived.Laws.BitsAllLaws
import Derived.Test.YtdigejpgjnhclaaDoorClean
namespace Go.Proofs.YtdigejpgjnhclaaDoor.Vm
open Go Go.RowKit Go.Lib
set_option linter.unusedVariables false
set_option linter.unusedSimpArgs false
theorem nat_u64 (z : Int) : ∃ n : Nat, IntKind.u64.wrap z = (n : Int) ∧ n < 18446744073709551616 := by
  refine ⟨(IntKind.u64.wrap z).toNat, ?_, ?_⟩ <;> rw [IntKind.wrap_u64] <;> omega
/-- The word of a real that is a number and not the nought below nought. -/
def FinW (n : Nat) : Prop := n < 18446744073709551616 ∧ n % 9223372036854775808 ≤ 9218868437227405312 ∧ n ≠ 9223372036854775808
theorem real_one (x y : Int) : ∃ N : Nat, Go.bits .xor .u64 (IntKind.u64.wrap x) (IntKind.u64.wrap y) = (N : Int) ∧ N < 18446744073709551616 := by
  obtain ⟨a, ea, ha⟩ := nat_u64 x
  obtain ⟨b, eb, hb⟩ := nat_u64 y
  rw [ea, eb, u64_xor_nat a b ha hb]
  exact ⟨_, rfl, Nat.xor_lt_two_pow (n := 64) (by omega) (by omega)⟩
theorem real_and (N : Nat) (hN : N < 18446744073709551616) : Go.bits .and .u64 ((N : Int) / 4503599627370496) 2047 = ((N / 4503599627370496 % 2048 : Nat) : Int) := by
  rw [show (N : Int) / 4503599627370496 = ((N / 4503599627370496 : Nat) : Int) by omega, show (2047 : Int) = ((2047 : Nat) : Int) from rfl, u64_and_nat _ 2047 (by omega) (by omega)]
  have e := Nat.and_two_pow_sub_one_eq_mod (N / 4503599627370496) 11
  rw [show (2 : Nat) ^ 11 = 2048 from rfl] at e
  rw [show (2047 : Nat) = 2048 - 1 from rfl, e]
theorem real_xor (N : Nat) (hN : N < 18446744073709551616) (hc : N / 4503599627370496 % 2048 = 2047) : ∃ M : Nat, Go.bits .xor .u64 (N : Int) 4611686018427387904 = (M : Int) ∧ M < 18446744073709551616 ∧ M % 9223372036854775808 < 9218868437227405312 := by
  have hx : Go.bits .xor .u64 (N : Int) 4611686018427387904 = ((N ^^^ 4611686018427387904 : Nat) : Int) := by
    rw [show (4611686018427387904 : Int) = ((4611686018427387904 : Nat) : Int) from rfl, u64_xor_nat _ _ hN (by omega)]
  have hlt : N ^^^ 4611686018427387904 < 18446744073709551616 := Nat.xor_lt_two_pow (n := 64) (by omega) (by omega)
  have hbit : (N ^^^ 4611686018427387904).testBit 62 = false := by
    rw [Nat.testBit_xor, Nat.testBit_eq_decide_div_mod_eq, Nat.testBit_eq_decide_div_mod_eq]
    have e62 : (2 : Nat) ^ 62 = 4611686018427387904 := by decide +kernel
    rw [e62]
    have h1 : N / 4611686018427387904 % 2 = 1 := by omega
    rw [h1]
    decide +kernel
  refine ⟨_, hx, hlt, ?_⟩
  generalize N ^^^ 4611686018427387904 = M at hlt hbit
  rw [Nat.testBit_eq_decide_div_mod_eq] at hbit
  have e62 : (2 : Nat) ^ 62 = 4611686018427387904 := by decide +kernel
  rw [e62] at hbit
  have := of_decide_eq_false hbit
  omega
/-- A value: kind, number, bits, text. -/
structure Vl where
  kd : Int
  n : Int
  b : Int
  s : ByteArray
abbrev vlA (v : Vl) : AV := .agg [.pv (.int .i64 v.kd), .pv (.int .i64 v.n), .pv (.int .u64 v.b), .pv (.str v.s)]
abbrev vlE (v : Vl) : PV := .agg [.int .i64 v.kd, .int .i64 v.n, .int .u64 v.b, .str v.s]
/-- A value that may be. -/
inductive Good : Vl → Prop
  | null : Good ⟨0, 0, 0, ⟨#[]⟩⟩
  | bool (n : Int) : n = 0 ∨ n = 1 → Good ⟨1, n, 0, ⟨#[]⟩⟩
  | int (n : Int) : -9223372036854775808 ≤ n ∧ n ≤ 9223372036854775807 → Good ⟨2, n, 0, ⟨#[]⟩⟩
  | real (n : Nat) : FinW n → Good ⟨3, 0, (n : Int), ⟨#[]⟩⟩
  | text (s : ByteArray) : s.size ≤ 40 → validD s.data.toList = true → Good ⟨4, 0, 0, s⟩
end Go.Proofs.YtdigejpgjnhclaaDoor.Vm
