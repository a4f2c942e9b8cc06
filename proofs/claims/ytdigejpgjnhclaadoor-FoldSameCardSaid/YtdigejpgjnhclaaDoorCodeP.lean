/- Values: what may be, the runes of a cleaned text, the bits of a real. Conditions: none. -/
import Derived.Laws.BitsAllLaws
import Derived.Test.YtdigejpgjnhclaaDoorVmEnv
import Derived.Test.YtdigejpgjnhclaaDoorRunes
section
namespace Go.Proofs.YtdigejpgjnhclaaDoor.Vm
open Go Go.RowKit
set_option linter.unusedVariables false
set_option linter.unusedSimpArgs false
attribute [local irreducible] Ops Dr Run
theorem clean_exR {g : Nat → Option (List PV)} (s : ByteArray) {most : Int} (h0 : 0 ≤ most) (h1 : most ≤ 1000) : ∃ t : ByteArray, ((t.size : Int) ≤ most ∧ Runes t) ∧ FnC (En Tryd.prog g) 28 [.pv (.str s), .pv (.int .i64 most)] (.pv (.str t)) [] := by
  have hE := EnOk g
  suffices h : ∃ v, (∃ t : ByteArray, ((t.size : Int) ≤ most ∧ Runes t) ∧ v = .pv (.str t)) ∧ FnC (En Tryd.prog g) 28 [.pv (.str s), .pv (.int .i64 most)] v [] by
    obtain ⟨_, ⟨t, h1, rfl⟩, h2⟩ := h
    exact ⟨t, h1, h2⟩
  refine FnC.ofEx Tryd.func28 rfl rfl rfl rfl ?_
  repeat (first | refine Run.seq ?_ | refine Run.skip ?_ | refine Run.block ?_)
  refine Run.region ?_
  refine O.assign rfl rfl ?_
  refine O.nil ?_
  try refine Run.keep [0,1,4,5,7,9,10,11,17] rfl rfl ?_
  repeat (first | refine Run.seq ?_ | refine Run.skip ?_ | refine Run.block ?_)
  refine Run.region ?_
  refine O.assign rfl rfl ?_
  refine O.nil ?_
  try refine Run.keep [0,1,4,5,7,9,10,11,17] rfl rfl ?_
  repeat (first | refine Run.seq ?_ | refine Run.skip ?_ | refine Run.block ?_)
  refine Run.region ?_
  refine O.move rfl rfl ?_
  refine O.range hE 9 T9 rfl rfl rfl rfl ?_
  refine O.nil ?_
  try refine Run.keep [0,1,4,5,7,9,10,11,17] rfl rfl ?_
  repeat (first | refine Run.seq ?_ | refine Run.skip ?_)
  refine Run.block ?_
  refine Run.loopInv (ι := ByteArray × Nat) (fun p => (p.1.size : Int) ≤ most ∧ Runes p.1) (fun p => ⟨23, [(1, .pv (.int .i64 most)), (5, .pv (.str p.1)), (9, .ptr 9 0)], [(9, .iter s p.2)]⟩) (fun p => s.size - p.2) (ByteArray.empty, 0) ⟨by simpa using h0, Runes.nil⟩ ?_ ?_
  ·
    refine SLe.eqv (by repeat (first | exact TmIn.nil | refine TmIn.cons rfl ?_)) (by repeat (first | exact BxIn.nil | refine BxIn.cons rfl ?_)) rfl
  rintro ⟨out, pos⟩ ⟨hout, hrun⟩ ih
  dsimp only at hout hrun ih ⊢
  by_cases hp : pos < s.size
  ·
    have hw := decode_pos s pos
    obtain ⟨c, wd, hdec⟩ : ∃ c wd, Utf8.decode s pos = (c, wd) := ⟨_, _, rfl⟩
    rw [hdec] at hw
    have hw : 1 ≤ wd := hw
    by_cases hfull : most < (out.size : Int) + 4
    ·
      repeat (first | refine Run.seq ?_ | refine Run.skip ?_ | refine Run.block ?_)
      refine Run.region ?_
      refine O.nextT rfl rfl hp hdec rfl ?_
      refine O.extract rfl rfl rfl ?_
      refine O.nil ?_
      try refine Run.keep [0,1,4,5,7,9,10,11,17] rfl rfl ?_
      repeat (first | refine Run.seq ?_ | refine Run.skip ?_)
      first | refine Run.condT rfl rfl ?_ | refine Run.condF rfl rfl ?_ | refine Run.condT rfl (by assumption) ?_ | refine Run.condF rfl (by assumption) ?_
      repeat (first | refine Run.seq ?_ | refine Run.skip ?_ | refine Run.block ?_)
      refine Run.region ?_
      refine O.extract rfl rfl rfl ?_
      refine O.assign rfl rfl ?_
      refine O.nil ?_
      try refine Run.keep [0,1,4,5,7,9,10,11,17] rfl rfl ?_
      repeat (first | refine Run.seq ?_ | refine Run.skip ?_ | refine Run.block ?_)
      refine Run.region ?_
      refine O.move rfl rfl ?_
      refine O.lenStr hE T9 rfl rfl rfl ?_
      first | refine O.ar rfl rfl rfl (by exact wrap_i64 (by omega) (by omega)) rfl ?_ | refine O.ar rfl rfl rfl rfl rfl ?_
      refine O.move rfl rfl ?_
      first | refine O.cmp rfl rfl rfl (by first | exact dT (by omega) | exact dF (by omega)) rfl ?_ | refine O.cmp rfl rfl rfl rfl rfl ?_
      refine O.nil ?_
      try refine Run.keep [0,1,4,5,7,9,10,11,17] rfl rfl ?_
      repeat (first | refine Run.seq ?_ | refine Run.skip ?_)
      first | refine Run.condT rfl rfl ?_ | refine Run.condF rfl rfl ?_ | refine Run.condT rfl (by assumption) ?_ | refine Run.condF rfl (by assumption) ?_
      refine Run.exit ?_
      repeat (first | refine thenR_exit ?_ | refine roundR_exit ?_ | refine blockR_exit ?_ | refine blockR_pass rfl ?_)
      repeat (first | refine Run.seq ?_ | refine Run.skip ?_ | refine Run.block ?_)
      refine Run.region ?_
      refine O.move rfl rfl ?_
      refine O.assign rfl rfl ?_
      refine O.nil ?_
      try refine Run.keep [0,1,4,5,7,9,10,11,17] rfl rfl ?_
      refine Run.ret ?_
      exact ⟨_, ⟨out, ⟨hout, hrun⟩, rfl⟩, Ends.flat hE (.inr rfl) rfl rfl (AVle.of_eq rfl) rfl⟩
    ·
      have hes := encode_size (c : Int)
      have hsz : (out ++ Utf8.encode (c : Int)).size = out.size + (Utf8.encode (c : Int)).size := by simp
      repeat (first | refine Run.seq ?_ | refine Run.skip ?_ | refine Run.block ?_)
      refine Run.region ?_
      refine O.nextT rfl rfl hp hdec rfl ?_
      refine O.extract rfl rfl rfl ?_
      refine O.nil ?_
      try refine Run.keep [0,1,4,5,7,9,10,11,17] rfl rfl ?_
      repeat (first | refine Run.seq ?_ | refine Run.skip ?_)
      first | refine Run.condT rfl rfl ?_ | refine Run.condF rfl rfl ?_ | refine Run.condT rfl (by assumption) ?_ | refine Run.condF rfl (by assumption) ?_
      repeat (first | refine Run.seq ?_ | refine Run.skip ?_ | refine Run.block ?_)
      refine Run.region ?_
      refine O.extract rfl rfl rfl ?_
      refine O.assign rfl rfl ?_
      refine O.nil ?_
      try refine Run.keep [0,1,4,5,7,9,10,11,17] rfl rfl ?_
      repeat (first | refine Run.seq ?_ | refine Run.skip ?_ | refine Run.block ?_)
      refine Run.region ?_
      refine O.move rfl rfl ?_
      refine O.lenStr hE T9 rfl rfl rfl ?_
      first | refine O.ar rfl rfl rfl (by exact wrap_i64 (by omega) (by omega)) rfl ?_ | refine O.ar rfl rfl rfl rfl rfl ?_
      refine O.move rfl rfl ?_
      first | refine O.cmp rfl rfl rfl (by first | exact dT (by omega) | exact dF (by omega)) rfl ?_ | refine O.cmp rfl rfl rfl rfl rfl ?_
      refine O.nil ?_
      try refine Run.keep [0,1,4,5,7,9,10,11,17] rfl rfl ?_
      repeat (first | refine Run.seq ?_ | refine Run.skip ?_)
      first | refine Run.condT rfl rfl ?_ | refine Run.condF rfl rfl ?_ | refine Run.condT rfl (by assumption) ?_ | refine Run.condF rfl (by assumption) ?_
      repeat (first | refine Run.seq ?_ | refine Run.skip ?_ | refine Run.block ?_)
      refine Run.region ?_
      refine O.move rfl rfl ?_
      refine O.move rfl rfl ?_
      refine O.rune hE T21 rfl T9 rfl rfl rfl ?_
      refine O.cat rfl rfl (by omega) rfl ?_
      refine O.assign rfl rfl ?_
      refine O.nil ?_
      try refine Run.keep [0,1,4,5,7,9,10,11,17] rfl rfl ?_
      exact ih (out ++ Utf8.encode (c : Int), pos + wd) _ (by refine SLe.eqv (by repeat (first | exact TmIn.nil | refine TmIn.cons rfl ?_)) (by repeat (first | exact BxIn.nil | refine BxIn.cons rfl ?_)) rfl) ⟨by show ((out ++ Utf8.encode (c : Int)).size : Int) ≤ most; omega, hrun.add _⟩ (by show s.size - (pos + wd) < s.size - pos; omega)
  ·
    repeat (first | refine Run.seq ?_ | refine Run.skip ?_ | refine Run.block ?_)
    refine Run.region ?_
    refine O.nextF rfl rfl hp rfl ?_
    refine O.extract rfl rfl rfl ?_
    refine O.nil ?_
    try refine Run.keep [0,1,4,5,7,9,10,11,17] rfl rfl ?_
    repeat (first | refine Run.seq ?_ | refine Run.skip ?_)
    first | refine Run.condT rfl rfl ?_ | refine Run.condF rfl rfl ?_ | refine Run.condT rfl (by assumption) ?_ | refine Run.condF rfl (by assumption) ?_
    refine Run.exit ?_
    repeat (first | refine thenR_exit ?_ | refine roundR_exit ?_ | refine blockR_exit ?_ | refine blockR_pass rfl ?_)
    repeat (first | refine Run.seq ?_ | refine Run.skip ?_ | refine Run.block ?_)
    refine Run.region ?_
    refine O.move rfl rfl ?_
    refine O.assign rfl rfl ?_
    refine O.nil ?_
    try refine Run.keep [0,1,4,5,7,9,10,11,17] rfl rfl ?_
    refine Run.ret ?_
    exact ⟨_, ⟨out, ⟨hout, hrun⟩, rfl⟩, Ends.flat hE (.inr rfl) rfl rfl (AVle.of_eq rfl) rfl⟩
end Go.Proofs.YtdigejpgjnhclaaDoor.Vm
end
section
namespace Go.Proofs.YtdigejpgjnhclaaDoor.Vm
open Go Go.RowKit Go.Lib
set_option linter.unusedVariables false
set_option linter.unusedSimpArgs false
theorem nat_u64 (z : Int) : ∃ n : Nat, IntKind.u64.wrap z = (n : Int) ∧ n < 18446744073709551616 := by
  refine ⟨(IntKind.u64.wrap z).toNat, ?_, ?_⟩ <;> rw [IntKind.wrap_u64] <;> omega
/-- The word of a real that is a number and not the nought below nought. -/
def FinW (n : Nat) : Prop := n < 18446744073709551616 ∧ n % 9223372036854775808 ≤ 9218868437227405312 ∧ n ≠ 9223372036854775808
theorem real_one (x y : Int) : ∃ N : Nat, Go.bits .xor .u64 (IntKind.u64.wrap x) (IntKind.u64.wrap y) = (N : Int) ∧ N < 18446744073709551616 := by
  obtain ⟨a, ea, ha⟩ := nat_u64 x
  obtain ⟨b, eb, hb⟩ := nat_u64 y
  rw [ea, eb, u64_xor_nat a b ha hb]
  exact ⟨_, rfl, Nat.xor_lt_two_pow (n := 64) (by omega) (by omega)⟩
theorem real_and (N : Nat) (hN : N < 18446744073709551616) : Go.bits .and .u64 ((N : Int) / 4503599627370496) 2047 = ((N / 4503599627370496 % 2048 : Nat) : Int) := by
  rw [show (N : Int) / 4503599627370496 = ((N / 4503599627370496 : Nat) : Int) by omega, show (2047 : Int) = ((2047 : Nat) : Int) from rfl, u64_and_nat _ 2047 (by omega) (by omega)]
  have e := Nat.and_two_pow_sub_one_eq_mod (N / 4503599627370496) 11
  rw [show (2 : Nat) ^ 11 = 2048 from rfl] at e
  rw [show (2047 : Nat) = 2048 - 1 from rfl, e]
theorem real_xor (N : Nat) (hN : N < 18446744073709551616) (hc : N / 4503599627370496 % 2048 = 2047) : ∃ M : Nat, Go.bits .xor .u64 (N : Int) 4611686018427387904 = (M : Int) ∧ M < 18446744073709551616 ∧ M % 9223372036854775808 < 9218868437227405312 := by
  have hx : Go.bits .xor .u64 (N : Int) 4611686018427387904 = ((N ^^^ 4611686018427387904 : Nat) : Int) := by
    rw [show (4611686018427387904 : Int) = ((4611686018427387904 : Nat) : Int) from rfl, u64_xor_nat _ _ hN (by omega)]
  have hlt : N ^^^ 4611686018427387904 < 18446744073709551616 := Nat.xor_lt_two_pow (n := 64) (by omega) (by omega)
  have hbit : (N ^^^ 4611686018427387904).testBit 62 = false := by
    rw [Nat.testBit_xor, Nat.testBit_eq_decide_div_mod_eq, Nat.testBit_eq_decide_div_mod_eq]
    have e62 : (2 : Nat) ^ 62 = 4611686018427387904 := by decide +kernel
    rw [e62]
    have h1 : N / 4611686018427387904 % 2 = 1 := by omega
    rw [h1]
    decide +kernel
  refine ⟨_, hx, hlt, ?_⟩
  generalize N ^^^ 4611686018427387904 = M at hlt hbit
  rw [Nat.testBit_eq_decide_div_mod_eq] at hbit
  have e62 : (2 : Nat) ^ 62 = 4611686018427387904 := by decide +kernel
  rw [e62] at hbit
  have := of_decide_eq_false hbit
  omega
/-- A value: kind, number, bits, text. -/
structure Vl where
  kd : Int
  n : Int
  b : Int
  s : ByteArray
abbrev vlA (v : Vl) : AV := .agg [.pv (.int .i64 v.kd), .pv (.int .i64 v.n), .pv (.int .u64 v.b), .pv (.str v.s)]
abbrev vlE (v : Vl) : PV := .agg [.int .i64 v.kd, .int .i64 v.n, .int .u64 v.b, .str v.s]
/-- A value that may be. -/
inductive Good : Vl → Prop
  | null : Good ⟨0, 0, 0, ⟨#[]⟩⟩
  | bool (n : Int) : n = 0 ∨ n = 1 → Good ⟨1, n, 0, ⟨#[]⟩⟩
  | int (n : Int) : -9223372036854775808 ≤ n ∧ n ≤ 9223372036854775807 → Good ⟨2, n, 0, ⟨#[]⟩⟩
  | real (n : Nat) : FinW n → Good ⟨3, 0, (n : Int), ⟨#[]⟩⟩
  | text (s : ByteArray) : s.size ≤ 40 → validD s.data.toList = true → Good ⟨4, 0, 0, s⟩
end Go.Proofs.YtdigejpgjnhclaaDoor.Vm
end
