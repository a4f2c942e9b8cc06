/- RealsRise: reals stand as the whole numbers stand that they are: for all whole numbers the law's pure form tells true. Conditions: none beyond the arguments' own kinds and sizes. -/
import Derived.Laws.BitsAllLaws
import Derived.Test.YtpgegljlgicpkaaDoorMathReal
import Derived.Test.YtpgegljlgicpkaaDoorQRealsRisex4
namespace Go.Proofs.YtpgegljlgicpkaaDoor.Pure
open Go.RowKit Go.Proofs.YtpgegljlgicpkaaDoor.QRealsRise Go.Proofs.YtpgegljlgicpkaaDoorW.PrintWords Go.Proofs.YtpgegljlgicpkaaDoorW.PrintLast

set_option linter.unusedVariables false
set_option linter.unusedSimpArgs false

open Go.Proofs.YtpgegljlgicpkaaDoor.MReal
theorem picked_emod (a m : Int) (hm : 0 < m) (hm2 : m < 9223372036854775808) : chirographkeep_picked.f a m = some (a % m) := by
  unfold chirographkeep_picked.f
  rw [if_neg (by omega)]
  have h0 := Int.emod_nonneg a (show m ≠ 0 by omega)
  have h1 := Int.emod_lt_of_pos a hm
  have e : Int.tmod a m = a % m ∨ (Int.tmod a m = a % m - m ∧ 0 < a % m) := by
    rw [Int.tmod_eq_emod]
    split
    · left; omega
    · right
      have : ¬ m ∣ a := fun h => by simp_all
      have := Int.emod_pos_of_not_dvd this
      omega
  rcases e with e | ⟨e, hp⟩
  · rw [e, if_neg (by omega)]
  · rw [e, if_pos (by omega)]; unfold wrap64; congr 1; omega

theorem w64 (x : Int) (h : -9223372036854775808 ≤ x ∧ x < 9223372036854775808) : wrap64 x = x := by unfold wrap64; omega
theorem u64w (x : Int) (h : 0 ≤ x ∧ x < 18446744073709551616) : IntKind.u64.wrap x = x := by rw [IntKind.wrap_u64]; omega
theorem nil_str : (⟨#[]⟩ : ByteArray).toList = ([] : List UInt8) := by decide +kernel
theorem nil_size : ((⟨#[]⟩ : ByteArray).size : Int) = 0 := rfl
theorem or_add (a b P i : Nat) (hP : P = 2 ^ i) (hb : b < P) : a * P ||| b = a * P + b := by
  subst hP
  rw [← Nat.shiftLeft_eq]
  exact (Nat.shiftLeft_add_eq_or_of_lt hb a).symm
theorem word_of (s e n : Nat) (hs : s ≤ 1) (he : e < 2048) (hn : 4503599627370496 ≤ n) (hn2 : n < 9007199254740992) :
    Go.bits .or .u64 (Go.bits .or .u64 (((s * 9223372036854775808 : Nat) : Int)) ((e * 4503599627370496 : Nat) : Int)) (Go.bits .and .u64 (n : Int) 4503599627370495) = ((s * 9223372036854775808 + e * 4503599627370496 + (n - 4503599627370496) : Nat) : Int) := by
  have h1 : s * 9223372036854775808 ||| e * 4503599627370496 = s * 9223372036854775808 + e * 4503599627370496 := or_add s _ _ 63 (by decide +kernel) (by omega)
  have h2 : (s * 9223372036854775808 + e * 4503599627370496) ||| (n % 4503599627370496) = s * 9223372036854775808 + e * 4503599627370496 + n % 4503599627370496 := by
    have := or_add (s * 2048 + e) (n % 4503599627370496) 4503599627370496 52 (by decide +kernel) (by omega)
    rw [show s * 9223372036854775808 + e * 4503599627370496 = (s * 2048 + e) * 4503599627370496 by omega]
    exact this
  have h3 : Go.bits .and .u64 (n : Int) 4503599627370495 = ((n % 4503599627370496 : Nat) : Int) := by
    rw [show (4503599627370495 : Int) = ((4503599627370495 : Nat) : Int) from rfl, u64_and_nat n 4503599627370495 (by omega) (by omega)]
    have e52 : (2 : Nat) ^ 52 = 4503599627370496 := by decide +kernel
    have := Nat.and_two_pow_sub_one_eq_mod n 52
    rw [e52] at this
    rw [show (4503599627370495 : Nat) = 4503599627370496 - 1 from rfl, this]
  have h4 : n % 4503599627370496 = n - 4503599627370496 := by omega
  rw [h3, u64_or_nat (s * 9223372036854775808) (e * 4503599627370496) (by omega) (by omega), h1, u64_or_nat (s * 9223372036854775808 + e * 4503599627370496) (n % 4503599627370496) (by omega) (by omega), h2, h4]
theorem whole_loop : ∀ (d n e s : Nat), s ≤ 1 → 1 ≤ n → n < 9007199254740992 → 4503599627370496 ≤ n * 2 ^ d → d + 1 ≤ e → e ≤ 2000 → ∃ B : Nat, Ev (fun k => chirographkeep_whole.l0 k (s : Int) (n : Int) (e : Int)) (3, 0, (B : Int), (⟨#[]⟩ : ByteArray)) ∧ B / 9223372036854775808 = s ∧ B % 9223372036854775808 < 9218868437227405312 ∧ mag (B % 9223372036854775808) = n * 2 ^ (e - 1)
  | d, n, e, s, hs, h1, h2, h3, h4, h5 => by
    by_cases h : n < 4503599627370496
    · cases d with
      | zero => simp at h3; omega
      | succ d =>
        obtain ⟨B, ev, b1, b2, b3⟩ := whole_loop d (2 * n) (e - 1) s hs (by omega) (by omega) (by rw [Nat.pow_succ] at h3; rw [Nat.mul_comm 2 n, Nat.mul_assoc, Nat.mul_comm 2]; exact h3) (by omega) (by omega)
        refine ⟨B, Ev.step (fun k => ?_) ev, b1, b2, ?_⟩
        · simp only [chirographkeep_whole.l0]
          rw [if_pos (by omega), u64w _ (by omega), u64w _ (by omega), show (n : Int) * 2 = ((2 * n : Nat) : Int) by omega, show (e : Int) - 1 = ((e - 1 : Nat) : Int) by omega]
        · rw [b3, show e - 1 = (e - 1 - 1) + 1 by omega, Nat.pow_succ, Nat.mul_comm 2 n, Nat.mul_assoc, Nat.mul_comm 2, show e - 1 - 1 + 1 - 1 = e - 1 - 1 by omega]
    · refine ⟨s * 9223372036854775808 + e * 4503599627370496 + (n - 4503599627370496), ?_, by omega, by omega, ?_⟩
      · refine Ev.step (f := fun _ => some (3, 0, ((s * 9223372036854775808 + e * 4503599627370496 + (n - 4503599627370496) : Nat) : Int), (⟨#[]⟩ : ByteArray))) (fun k => ?_) (Ev.now _)
        simp only [chirographkeep_whole.l0]
        rw [if_neg (by omega), u64w _ (by omega), u64w _ (by omega), ← word_of s e n hs (by omega) (by omega) h2]
        rfl
      · rw [show (s * 9223372036854775808 + e * 4503599627370496 + (n - 4503599627370496)) % 9223372036854775808 = e * 4503599627370496 + (n - 4503599627370496) by omega]
        unfold mag
        rw [if_neg (by omega), show (e * 4503599627370496 + (n - 4503599627370496)) % 4503599627370496 = n - 4503599627370496 by omega, show (e * 4503599627370496 + (n - 4503599627370496)) / 4503599627370496 = e by omega, show 4503599627370496 + (n - 4503599627370496) = n by omega]
theorem whole_ev (C : Nat) (hC : C = 2 ^ (1075 - 1)) (m : Int) (h : -562949953421312 ≤ m ∧ m < 562949953421312) : ∃ B : Nat, Ev (fun k => chirographkeep_whole.f k m) (3, 0, (B : Int), (⟨#[]⟩ : ByteArray)) ∧ B % 9223372036854775808 < 9218868437227405312 ∧ key B = m * (C : Int) ∧ (m = 0 → B = 0) := by
  by_cases h0 : m = 0
  · subst h0
    refine ⟨0, ?_, by decide, by rw [Int.zero_mul]; rfl, fun _ => rfl⟩
    refine Ev.congr (f := fun _ => some (3, 0, ((0 : Nat) : Int), (⟨#[]⟩ : ByteArray))) (fun k => ?_) (Ev.now _)
    simp only [chirographkeep_whole.f, if_true]
    rfl
  · by_cases hn : m < 0
    · obtain ⟨B, ev, b1, b2, b3⟩ := whole_loop 52 m.natAbs 1075 1 (by omega) (by omega) (by omega) (by omega) (by omega) (by omega)
      rw [← hC] at b3
      refine ⟨B, ?_, b2, ?_, fun h => absurd h h0⟩
      · refine Ev.congr (f := fun k => chirographkeep_whole.j0 k 1 (m.natAbs : Int)) (fun k => ?_) (Ev.step (fun k => ?_) ev)
        · simp only [chirographkeep_whole.f]
          rw [if_neg h0, if_pos hn, w64 _ (by omega), u64w _ (by omega), show -m = (m.natAbs : Int) by omega]
        · simp only [chirographkeep_whole.j0]
          rfl
      · unfold key
        rw [if_pos (by omega), b3, Int.natCast_mul]
        have hm2 : m = -(m.natAbs : Int) := by omega
        generalize (m.natAbs : Int) = q at hm2 ⊢
        rw [hm2, Int.neg_mul]
    · obtain ⟨B, ev, b1, b2, b3⟩ := whole_loop 52 m.natAbs 1075 0 (by omega) (by omega) (by omega) (by omega) (by omega) (by omega)
      rw [← hC] at b3
      refine ⟨B, ?_, b2, ?_, fun h => absurd h h0⟩
      · refine Ev.congr (f := fun k => chirographkeep_whole.j0 k 0 (m.natAbs : Int)) (fun k => ?_) (Ev.step (fun k => ?_) ev)
        · simp only [chirographkeep_whole.f]
          rw [if_neg h0, if_neg hn, u64w _ (by omega), show m = (m.natAbs : Int) by omega]
          rfl
        · simp only [chirographkeep_whole.j0]
          rfl
      · unfold key
        rw [if_neg (by omega), b3, Int.natCast_mul]
        have hm2 : m = (m.natAbs : Int) := by omega
        generalize (m.natAbs : Int) = q at hm2 ⊢
        rw [hm2]
theorem fmt_is : FloatKind.f64.format = Ieee.double := rfl
theorem Check_int (m : Int) : Ev (fun k => value_Check.f k 2 m 0 (⟨#[]⟩ : ByteArray)) 0 := by
  refine Ev.congr (f := fun k => value_Check.j0 k false 2 m 0 (⟨#[]⟩ : ByteArray)) (fun k => ?_) ?_
  · simp only [value_Check.f]
    rw [if_neg (by decide), decide_eq_false (by decide)]
  refine Ev.step (f := fun k => value_Check.j1 k false 2 m 0 (⟨#[]⟩ : ByteArray)) (fun k => ?_) ?_
  · simp only [value_Check.j0, nil_size, nil_str]
    rw [if_neg (by simp), if_neg (by decide), if_neg (by decide), if_pos trivial, if_neg (by decide), if_pos trivial, if_pos trivial]
  refine Ev.step (f := fun _ => some 0) (fun k => ?_) (Ev.now _)
  simp only [value_Check.j1]
  rw [if_neg (by simp), if_neg (by decide), if_neg (by decide), if_neg (by decide)]
theorem Check_real (B : Nat) (hB : B % 9223372036854775808 < 9218868437227405312) (h0 : key B = 0 → B = 0) : Ev (fun k => value_Check.f k 3 0 (B : Int) (⟨#[]⟩ : ByteArray)) 0 := by
  refine Ev.congr (f := fun k => value_Check.j0 k false 3 0 (B : Int) (⟨#[]⟩ : ByteArray)) (fun k => ?_) ?_
  · simp only [value_Check.f]
    rw [if_neg (by decide), decide_eq_false (by decide)]
  refine Ev.step (f := fun k => value_Check.j1 k false 3 0 (B : Int) (⟨#[]⟩ : ByteArray)) (fun k => ?_) ?_
  · simp only [value_Check.j0, nil_size, nil_str]
    rw [if_neg (by simp), if_neg (by decide), if_neg (by decide), if_pos trivial, if_pos trivial, if_neg (by decide), if_neg (by decide)]
    rfl
  have e1 : ¬ (FloatKind.f64.format.order B B != some Ordering.eq) = true := by
    have := eq_fin B B hB hB
    rw [fmt_is]
    simp at this
    simp [this]
  have e2 := eq_fin B 0 hB (by decide)
  have k0 : key 0 = 0 := rfl
  rw [k0] at e2
  refine Ev.step (f := fun k => if decide (key B = 0) = true then ((math_Signbit.f B).bind fun t102 => (value_Check.j2 k t102)) else (value_Check.j2 k false)) (fun k => ?_) ?_
  · simp only [value_Check.j1, Int.toNat_natCast]
    rw [if_neg (by simp), if_neg (by decide), if_pos trivial, if_neg e1, fmt_is, e2]
  have fin : Ev (fun k => value_Check.j2 k false) 0 := by
    refine Ev.step (f := fun _ => some 0) (fun k => ?_) (Ev.now _)
    simp only [value_Check.j2]
    rw [if_neg (by simp)]
  by_cases hk : key B = 0
  · have hb := h0 hk
    subst hb
    have hw : decide (wrap64 (((0 : Nat) : Int)) < 0) = false := decide_eq_false (by rw [w64 _ (by omega)]; omega)
    simp only [hk, decide_true, if_true, math_Signbit.f, Option.bind_some, hw]
    exact fin
  · simp only [decide_eq_false hk, Bool.false_eq_true, if_false]
    exact fin
def cmpI (x y : Int) : Int := if x < y then -1 else if x > y then 1 else 0
theorem order_j0 (x y : Int) : Ev (fun k => value_order.j0 k (decide (x < y)) (decide (x > y))) (cmpI x y) := by
  refine Ev.step (f := fun _ => some (cmpI x y)) (fun k => ?_) (Ev.now _)
  simp only [value_order.j0, cmpI]
  by_cases h : x < y
  · rw [if_pos (by simpa using h), if_pos h]
  · rw [if_neg (by simpa using h), if_neg h]
    by_cases h2 : x > y
    · rw [if_pos (by simpa using h2), if_pos h2]
    · rw [if_neg (by simpa using h2), if_neg h2]
theorem Compare_int (m n : Int) : Ev (fun k => value_Compare.f k 2 m 0 (⟨#[]⟩ : ByteArray) 2 n 0 (⟨#[]⟩ : ByteArray)) (cmpI m n, 0) := by
  simp only [value_Compare.f, value_both.f]
  refine Ev.bind (a := 0) ?_ ?_
  · refine Ev.bind (Check_int m) ?_
    simp only [if_true]
    exact Ev.bind (Check_int n) (Ev.now _)
  · simp only [if_true]
    refine Ev.bind (a := cmpI m n) ?_ (Ev.now _)
    refine Ev.congr (fun k => ?_) (order_j0 m n)
    simp only [value_order.f]
    rw [if_pos trivial, if_neg (by decide), if_neg (by decide)]
theorem Compare_real (A B : Nat) (hA : A % 9223372036854775808 < 9218868437227405312) (hB : B % 9223372036854775808 < 9218868437227405312) (a0 : key A = 0 → A = 0) (b0 : key B = 0 → B = 0) : Ev (fun k => value_Compare.f k 3 0 (A : Int) (⟨#[]⟩ : ByteArray) 3 0 (B : Int) (⟨#[]⟩ : ByteArray)) (cmpI (key A) (key B), 0) := by
  simp only [value_Compare.f, value_both.f]
  refine Ev.bind (a := 0) ?_ ?_
  · refine Ev.bind (Check_real A hA a0) ?_
    simp only [if_true]
    exact Ev.bind (Check_real B hB b0) (Ev.now _)
  · simp only [if_true]
    refine Ev.bind (a := cmpI (key A) (key B)) ?_ (Ev.now _)
    refine Ev.congr (fun k => ?_) (order_j0 (key A) (key B))
    simp only [value_order.f, Int.toNat_natCast]
    rw [if_pos trivial, if_pos trivial, fmt_is, lt_fin A B hA hB, gt_fin A B hA hB]
theorem cmp_scale (m n C : Int) (hC : 0 < C) : cmpI (m * C) (n * C) = cmpI m n := by
  unfold cmpI
  by_cases h : m < n
  · rw [if_pos h, if_pos (Int.mul_lt_mul_of_pos_right h hC)]
  · rw [if_neg h, if_neg (fun h2 => h (Int.lt_of_mul_lt_mul_right h2 (Int.le_of_lt hC)))]
    by_cases h2 : m > n
    · rw [if_pos h2, if_pos (Int.mul_lt_mul_of_pos_right h2 hC)]
    · rw [if_neg h2, if_neg (fun h3 => h2 (Int.lt_of_mul_lt_mul_right h3 (Int.le_of_lt hC)))]
theorem RealsRise : chirographkeep_RealsRise.Pure := by
  intro a b _ _
  apply Ev.rounds
  simp only [chirographkeep_RealsRise.f, picked_emod a 1125899906842624 (by decide) (by decide), picked_emod b 1125899906842624 (by decide) (by decide), Option.bind_some]
  rw [w64 (a % 1125899906842624 - 562949953421312) (by omega), w64 (b % 1125899906842624 - 562949953421312) (by omega)]
  have hm : -562949953421312 ≤ a % 1125899906842624 - 562949953421312 ∧ a % 1125899906842624 - 562949953421312 < 562949953421312 := by omega
  have hn : -562949953421312 ≤ b % 1125899906842624 - 562949953421312 ∧ b % 1125899906842624 - 562949953421312 < 562949953421312 := by omega
  generalize a % 1125899906842624 - 562949953421312 = m at hm ⊢
  generalize b % 1125899906842624 - 562949953421312 = n at hn ⊢
  obtain ⟨D, hD, hD2⟩ : ∃ D : Nat, D = 2 ^ (1075 - 1) ∧ 0 < D := ⟨_, rfl, Nat.two_pow_pos _⟩
  obtain ⟨A, ea, fa, ka, za⟩ := whole_ev D hD m hm
  obtain ⟨B, eb, fb, kb, zb⟩ := whole_ev D hD n hn
  have hC : (0 : Int) < (D : Int) := by omega
  generalize (D : Int) = C at hC ka kb
  have a0 : key A = 0 → A = 0 := fun h => za (by
    rw [ka] at h
    rcases Int.mul_eq_zero.1 h with h | h
    · exact h
    · omega)
  have b0 : key B = 0 → B = 0 := fun h => zb (by
    rw [kb] at h
    rcases Int.mul_eq_zero.1 h with h | h
    · exact h
    · omega)
  refine Ev.bind ea ?_
  refine Ev.bind eb ?_
  refine Ev.bind (Compare_real A B fa fb a0 b0) ?_
  refine Ev.bind (Compare_int m n) ?_
  rw [ka, kb, cmp_scale m n C hC]
  simp only [if_true]
  by_cases h : m = n
  · simp only [if_pos h]; exact Ev.now _
  · simp only [if_neg h]
    have : (cmpI m n != 0) = true := by
      unfold cmpI
      by_cases h1 : m < n
      · rw [if_pos h1]; rfl
      · rw [if_neg h1, if_pos (show m > n by omega)]; rfl
    rw [this]
    exact Ev.now _

end Go.Proofs.YtpgegljlgicpkaaDoor.Pure
