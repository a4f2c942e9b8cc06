/- Values made of raw things, and their order: what the functions answer, and the contracts of them. Conditions: none beyond the tables of utf8, where they are asked. -/
import Derived.Laws.BitsAllLaws
import Derived.Lib.MapLaws
import Derived.Lib.ValidLaws
import Derived.Test.YtcbdhdblchmofaaDoorMathReal
import Derived.Test.YtcbdhdblchmofaaDoorQOrderTurnsx4
namespace Go.Proofs.YtcbdhdblchmofaaDoor.PureV
open Go.RowKit Go.Proofs.YtcbdhdblchmofaaDoor.QOrderTurns Go.Proofs.YtcbdhdblchmofaaDoorW.PrintWords Go.Proofs.YtcbdhdblchmofaaDoorW.PrintLast
open Go.Proofs.YtcbdhdblchmofaaDoor.MReal Go.Lib
set_option linter.unusedVariables false
set_option linter.unusedSimpArgs false
theorem picked_emod (a m : Int) (hm : 0 < m) (hm2 : m < 9223372036854775808) : chirographkeep_picked.f a m = some (a % m) := by
  unfold chirographkeep_picked.f
  rw [if_neg (by omega)]
  have h0 := Int.emod_nonneg a (show m ≠ 0 by omega)
  have h1 := Int.emod_lt_of_pos a hm
  have e : Int.tmod a m = a % m ∨ (Int.tmod a m = a % m - m ∧ 0 < a % m) := by
    rw [Int.tmod_eq_emod]
    split
    · left; omega
    · right
      have : ¬ m ∣ a := fun h => by simp_all
      have := Int.emod_pos_of_not_dvd this
      omega
  rcases e with e | ⟨e, hp⟩
  · rw [e, if_neg (by omega)]
  · rw [e, if_pos (by omega)]; unfold wrap64; congr 1; omega

/-- A run of bytes that decodes as one rune, whatever follows. -/
def Whole (q : List UInt8) : Prop := q ≠ [] ∧ ∀ t : List UInt8, (decodeL (q ++ t)).2 = q.length ∧ ¬ ((decodeL (q ++ t)).1 = 65533 ∧ (decodeL (q ++ t)).2 = 1)
theorem dn1 (n c x y z : Nat) (h : c < 128) : decodeN n c x y z = (c, 1) := by unfold decodeN; rw [if_pos h]
theorem dn2 (n c x y : Nat) (h0 : 128 ≤ c) (h1 : c < 2048) : decodeN (n + 2) (192 + c / 64) (128 + c % 64) x y = (c, 2) := by
  unfold decodeN
  have e : (192 + c / 64) % 32 * 64 + (128 + c % 64) % 64 = c := by omega
  rw [if_neg (by omega), if_pos (by omega), e, if_pos (by omega)]
theorem dn3 (n c x : Nat) (h0 : 2048 ≤ c) (h1 : c < 65536) (hv : c < 55296 ∨ 57344 ≤ c) : decodeN (n + 3) (224 + c / 4096) (128 + c / 64 % 64) (128 + c % 64) x = (c, 3) := by
  unfold decodeN
  have e : (224 + c / 4096) % 16 * 4096 + (128 + c / 64 % 64) % 64 * 64 + (128 + c % 64) % 64 = c := by omega
  rw [if_neg (by omega), if_neg (by omega), if_pos (by omega), e, if_pos (by omega)]
theorem dn4 (n c : Nat) (h0 : 65536 ≤ c) (h1 : c ≤ 1114111) : decodeN (n + 4) (240 + c / 262144) (128 + c / 4096 % 64) (128 + c / 64 % 64) (128 + c % 64) = (c, 4) := by
  unfold decodeN
  have e : (240 + c / 262144) % 8 * 262144 + (128 + c / 4096 % 64) % 64 * 4096 + (128 + c / 64 % 64) % 64 * 64 + (128 + c % 64) % 64 = c := by omega
  rw [if_neg (by omega), if_neg (by omega), if_neg (by omega), if_pos (by omega), e, if_pos (by omega)]
theorem u8n (n : Nat) (h : n < 256) : (UInt8.ofNat n).toNat = n := by simp; omega
theorem enc_whole (r : Int) : Whole (Utf8.encode r).data.toList := by
  have hc : ∃ c : Nat, (if Utf8.valid r then r.toNat else Utf8.runeError) = c ∧ (c < 55296 ∨ (57344 ≤ c ∧ c ≤ 1114111)) := by
    refine ⟨_, rfl, ?_⟩
    by_cases h : Utf8.valid r = true
    · rw [if_pos h]
      simp [Utf8.valid] at h
      omega
    · rw [if_neg h]
      unfold Utf8.runeError
      omega
  obtain ⟨c, e, hv⟩ := hc
  unfold Utf8.encode
  rw [e]
  by_cases h1 : c < 128
  · simp only [h1, if_true]
    refine ⟨by simp, fun t => ?_⟩
    have hd : decodeL (([UInt8.ofNat c] : List UInt8) ++ t) = (c, 1) := by
      rw [decodeL_N]
      show decodeN _ (UInt8.ofNat c).toNat _ _ _ = _
      rw [u8n c (by omega)]
      exact dn1 _ _ _ _ _ h1
    show (decodeL (([UInt8.ofNat c] : List UInt8) ++ t)).2 = 1 ∧ _
    rw [hd]
    exact ⟨rfl, fun h => by have := h.1; simp at this; omega⟩
  · by_cases h2 : c < 2048
    · simp only [h1, h2, if_true, if_false]
      refine ⟨by simp, fun t => ?_⟩
      have hd : decodeL (([UInt8.ofNat (192 + c / 64), UInt8.ofNat (128 + c % 64)] : List UInt8) ++ t) = (c, 2) := by
        rw [decodeL_N]
        show decodeN (t.length + 2) (UInt8.ofNat (192 + c / 64)).toNat (UInt8.ofNat (128 + c % 64)).toNat _ _ = _
        rw [u8n _ (by omega), u8n _ (by omega)]
        exact dn2 _ _ _ _ (by omega) h2
      show (decodeL (([UInt8.ofNat (192 + c / 64), UInt8.ofNat (128 + c % 64)] : List UInt8) ++ t)).2 = 2 ∧ _
      rw [show (decodeL (({ data := #[UInt8.ofNat (192 + c / 64), UInt8.ofNat (128 + c % 64)] } : ByteArray).data.toList ++ t)) = (c, 2) from hd]
      exact ⟨rfl, fun h => by have := h.2; simp at this⟩
    · by_cases h3 : c < 65536
      · simp only [h1, h2, h3, if_true, if_false]
        refine ⟨by simp, fun t => ?_⟩
        have hd : decodeL (([UInt8.ofNat (224 + c / 4096), UInt8.ofNat (128 + c / 64 % 64), UInt8.ofNat (128 + c % 64)] : List UInt8) ++ t) = (c, 3) := by
          rw [decodeL_N]
          show decodeN (t.length + 3) (UInt8.ofNat (224 + c / 4096)).toNat (UInt8.ofNat (128 + c / 64 % 64)).toNat (UInt8.ofNat (128 + c % 64)).toNat _ = _
          rw [u8n _ (by omega), u8n _ (by omega), u8n _ (by omega)]
          exact dn3 _ _ _ (by omega) h3 (by omega)
        show (decodeL (([UInt8.ofNat (224 + c / 4096), UInt8.ofNat (128 + c / 64 % 64), UInt8.ofNat (128 + c % 64)] : List UInt8) ++ t)).2 = 3 ∧ _
        rw [show (decodeL (({ data := #[UInt8.ofNat (224 + c / 4096), UInt8.ofNat (128 + c / 64 % 64), UInt8.ofNat (128 + c % 64)] } : ByteArray).data.toList ++ t)) = (c, 3) from hd]
        exact ⟨rfl, fun h => by have := h.2; simp at this⟩
      · simp only [h1, h2, h3, if_false]
        refine ⟨by simp, fun t => ?_⟩
        have hd : decodeL (([UInt8.ofNat (240 + c / 262144), UInt8.ofNat (128 + c / 4096 % 64), UInt8.ofNat (128 + c / 64 % 64), UInt8.ofNat (128 + c % 64)] : List UInt8) ++ t) = (c, 4) := by
          rw [decodeL_N]
          show decodeN (t.length + 4) (UInt8.ofNat (240 + c / 262144)).toNat (UInt8.ofNat (128 + c / 4096 % 64)).toNat (UInt8.ofNat (128 + c / 64 % 64)).toNat (UInt8.ofNat (128 + c % 64)).toNat = _
          rw [u8n _ (by omega), u8n _ (by omega), u8n _ (by omega), u8n _ (by omega)]
          exact dn4 _ _ (by omega) (by omega)
        show (decodeL (([UInt8.ofNat (240 + c / 262144), UInt8.ofNat (128 + c / 4096 % 64), UInt8.ofNat (128 + c / 64 % 64), UInt8.ofNat (128 + c % 64)] : List UInt8) ++ t)).2 = 4 ∧ _
        rw [show (decodeL (({ data := #[UInt8.ofNat (240 + c / 262144), UInt8.ofNat (128 + c / 4096 % 64), UInt8.ofNat (128 + c / 64 % 64), UInt8.ofNat (128 + c % 64)] } : ByteArray).data.toList ++ t)) = (c, 4) from hd]
        exact ⟨rfl, fun h => by have := h.2; simp at this⟩
theorem whole_valid (q t : List UInt8) (h : Whole q) : validD (q ++ t) = validD t := by
  obtain ⟨hne, hq⟩ := h
  rw [validD_step (q ++ t) (by simp [hne]), if_neg (hq t).2, (hq t).1]
  simp
theorem wholes_valid : ∀ (us : List (List UInt8)), (∀ q ∈ us, Whole q) → validD us.flatten = true
  | [], _ => validD_nil
  | q :: us, h => by rw [List.flatten_cons, whole_valid q _ (h q (by simp))]; exact wholes_valid us (fun x hx => h x (by simp [hx]))
/-! ### values of raw things -/
theorem enc4 (r : Int) : (Utf8.encode r).size ≤ 4 := by
  simp only [Utf8.encode]
  repeat' split
  all_goals simp [ByteArray.size]
/-- What is cleaned: whole runes, not more than may be. -/
theorem clean_good (s : ByteArray) (most : Int) : ∀ (n pos : Nat) (out : ByteArray) (us : List (List UInt8)), out.data.toList = us.flatten → (∀ q ∈ us, Whole q) → (out.size : Int) ≤ most → ∃ vs : List (List UInt8), (cleanGo s most n pos out).data.toList = vs.flatten ∧ (∀ q ∈ vs, Whole q) ∧ ((cleanGo s most n pos out).size : Int) ≤ most
  | 0, _, out, us, h, hw, hs => ⟨us, h, hw, hs⟩
  | n + 1, pos, out, us, h, hw, hs => by
    unfold cleanGo
    by_cases hp : pos < s.size
    · rw [if_pos hp]
      by_cases hm : (out.size : Int) + 4 > most
      · rw [if_pos hm]; exact ⟨us, h, hw, hs⟩
      · rw [if_neg hm]
        refine clean_good s most n _ _ (us ++ [(Utf8.encode (Utf8.decode s pos).1).data.toList]) ?_ ?_ ?_
        · rw [ByteArray.data_append, Array.toList_append, h]
          simp
        · intro q hq
          rcases List.mem_append.1 hq with hq | hq
          · exact hw q hq
          · rw [List.mem_singleton.1 hq]; exact enc_whole _
        · have := enc4 (Utf8.decode s pos).1
          rw [ByteArray.size_append]
          omega
    · rw [if_neg hp]; exact ⟨us, h, hw, hs⟩
theorem nil_str : (⟨#[]⟩ : ByteArray).toList = ([] : List UInt8) := by decide +kernel
theorem less_eq (x y : List UInt8) : Op.bytesLess x y = decide (x < y) := by
  induction x generalizing y with
  | nil => cases y <;> simp [Op.bytesLess]
  | cons a x ih =>
    cases y with
    | nil => simp [Op.bytesLess]
    | cons b y =>
      rw [Op.bytesLess, ih y]
      simp only [List.cons_lt_cons_iff]
      by_cases h1 : a < b <;> by_cases h2 : a = b <;> by_cases h3 : x < y <;> simp [h1, h2, h3]
/-- A value that may be: kind, number, bits, text. -/
def GoodV (k n b : Int) (s : ByteArray) : Prop :=
  (k = 0 ∧ n = 0 ∧ b = 0 ∧ s.toList = []) ∨ (k = 1 ∧ (n = 0 ∨ n = 1) ∧ b = 0 ∧ s.toList = []) ∨ (k = 2 ∧ b = 0 ∧ s.toList = []) ∨
  (k = 3 ∧ n = 0 ∧ 0 ≤ b ∧ b < 18446744073709551616 ∧ b % 9223372036854775808 < 9218868437227405312 ∧ b ≠ 9223372036854775808 ∧ s.toList = []) ∨
  (k = 4 ∧ n = 0 ∧ b = 0 ∧ (s.size : Int) ≤ 40 ∧ validD s.toList = true)
theorem real_ev (a b : Int) : ∃ r : Int, Ev (fun k => chirographkeep_real.f k a b) r ∧ 0 ≤ r ∧ r < 18446744073709551616 ∧ r % 9223372036854775808 < 9218868437227405312 ∧ r ≠ 9223372036854775808 := by
  have hX : ∃ N : Nat, Go.bits .xor .u64 (IntKind.u64.wrap ((IntKind.u64.wrap (a)) * 1099511627776)) (IntKind.u64.wrap (b)) = (N : Int) ∧ N < 18446744073709551616 := by
    have h1 : ∀ z : Int, ∃ n : Nat, IntKind.u64.wrap z = (n : Int) ∧ n < 18446744073709551616 := fun z => by
      refine ⟨(IntKind.u64.wrap z).toNat, ?_, ?_⟩ <;> rw [IntKind.wrap_u64] <;> omega
    obtain ⟨x, ex, hx⟩ := h1 ((IntKind.u64.wrap (a)) * 1099511627776)
    obtain ⟨y, ey, hy⟩ := h1 b
    rw [ex, ey, u64_xor_nat x y hx hy]
    exact ⟨_, rfl, Nat.xor_lt_two_pow (n := 64) (by omega) (by omega)⟩
  obtain ⟨N, eN, hN⟩ := hX
  have hj : ∀ M : Nat, M < 18446744073709551616 → M % 9223372036854775808 < 9218868437227405312 → ∃ r : Int, Ev (fun k => chirographkeep_real.j0 k (M : Int)) r ∧ 0 ≤ r ∧ r < 18446744073709551616 ∧ r % 9223372036854775808 < 9218868437227405312 ∧ r ≠ 9223372036854775808 := by
    intro M hM hf
    by_cases h : (M : Int) = 9223372036854775808
    · refine ⟨0, Ev.step (f := fun _ => some 0) (fun k => ?_) (Ev.now _), by omega, by omega, by omega, by omega⟩
      simp only [chirographkeep_real.j0]
      rw [if_pos h]
    · refine ⟨M, Ev.step (f := fun _ => some (M : Int)) (fun k => ?_) (Ev.now _), by omega, by omega, by omega, h⟩
      simp only [chirographkeep_real.j0]
      rw [if_neg h]
  have hand : Go.bits .and .u64 ((N : Int) / 4503599627370496) 2047 = ((N / 4503599627370496 % 2048 : Nat) : Int) := by
    rw [show (N : Int) / 4503599627370496 = ((N / 4503599627370496 : Nat) : Int) by omega, show (2047 : Int) = ((2047 : Nat) : Int) from rfl, u64_and_nat _ 2047 (by omega) (by omega)]
    have e := Nat.and_two_pow_sub_one_eq_mod (N / 4503599627370496) 11
    rw [show (2 : Nat) ^ 11 = 2048 from rfl] at e
    rw [show (2047 : Nat) = 2048 - 1 from rfl, e]
  by_cases hc : Go.bits .and .u64 ((N : Int) / 4503599627370496) 2047 = 2047
  · have hx : Go.bits .xor .u64 (N : Int) 4611686018427387904 = ((N ^^^ 4611686018427387904 : Nat) : Int) := by
      rw [show (4611686018427387904 : Int) = ((4611686018427387904 : Nat) : Int) from rfl, u64_xor_nat _ _ hN (by omega)]
    have hlt : N ^^^ 4611686018427387904 < 18446744073709551616 := Nat.xor_lt_two_pow (n := 64) (by omega) (by omega)
    have hbit : (N ^^^ 4611686018427387904).testBit 62 = false := by
      rw [Nat.testBit_xor, Nat.testBit_eq_decide_div_mod_eq, Nat.testBit_eq_decide_div_mod_eq]
      rw [hand] at hc
      have e62 : (2 : Nat) ^ 62 = 4611686018427387904 := by decide +kernel
      rw [e62]
      have h1 : N / 4611686018427387904 % 2 = 1 := by omega
      rw [h1]
      decide +kernel
    have hfin : (N ^^^ 4611686018427387904) % 9223372036854775808 < 9218868437227405312 := by
      generalize N ^^^ 4611686018427387904 = M at hlt hbit
      rw [Nat.testBit_eq_decide_div_mod_eq] at hbit
      have e62 : (2 : Nat) ^ 62 = 4611686018427387904 := by decide +kernel
      rw [e62] at hbit
      have := of_decide_eq_false hbit
      omega
    obtain ⟨r, er, hr⟩ := hj _ hlt hfin
    refine ⟨r, Ev.congr (f := fun k => chirographkeep_real.j0 k ((N ^^^ 4611686018427387904 : Nat) : Int)) (fun k => ?_) er, hr⟩
    simp only [chirographkeep_real.f, eN]
    rw [if_pos hc, hx]
  · have hfin : N % 9223372036854775808 < 9218868437227405312 := by
      rw [hand] at hc
      omega
    obtain ⟨r, er, hr⟩ := hj N hN hfin
    refine ⟨r, Ev.congr (f := fun k => chirographkeep_real.j0 k (N : Int)) (fun k => ?_) er, hr⟩
    simp only [chirographkeep_real.f, eN]
    rw [if_neg hc]
theorem clean_ev (s : ByteArray) : ∃ t : ByteArray, chirographkeep_clean.f s 20 = some t ∧ (t.size : Int) ≤ 20 ∧ validD t.toList = true := by
  refine ⟨_, by unfold chirographkeep_clean.f; rw [if_pos (by omega), if_pos (by omega)], ?_⟩
  obtain ⟨vs, h1, h2, h3⟩ := clean_good s 20 s.size 0 ⟨#[]⟩ [] rfl (fun q hq => by simp at hq) (by decide)
  exact ⟨h3, by rw [ByteArray.toList_eq, h1]; exact wholes_valid vs h2⟩
theorem valOf_ev (kd a0 a b : Int) (s : ByteArray) : ∃ (n bt : Int) (t : ByteArray), Ev (fun k => chirographkeep_ValOf.f k kd a0 a b s) (kd, n, bt, t) ∧ (0 ≤ kd → kd ≤ 4 → GoodV kd n bt t) := by
  have hj : ∀ (n bt : Int) (t : ByteArray), Ev (fun k => chirographkeep_ValOf.j0 k kd n bt t) (kd, n, bt, t) := fun n bt t => Ev.step (f := fun _ => some (kd, n, bt, t)) (fun k => by simp only [chirographkeep_ValOf.j0]) (Ev.now _)
  by_cases h1 : kd = 1
  · have hp := picked_emod a 2 (by omega) (by omega)
    refine ⟨a % 2, 0, ⟨#[]⟩, Ev.congr (fun k => ?_) (hj _ _ _), fun _ _ => ?_⟩
    · simp only [chirographkeep_ValOf.f]
      rw [if_pos h1, hp]
      rfl
    · exact .inr (.inl ⟨h1, by omega, rfl, nil_str⟩)
  · by_cases h2 : kd = 2
    · refine ⟨a, 0, ⟨#[]⟩, Ev.congr (fun k => ?_) (hj _ _ _), fun _ _ => ?_⟩
      · simp only [chirographkeep_ValOf.f]
        rw [if_neg h1, if_pos h2]
      · exact .inr (.inr (.inl ⟨h2, rfl, nil_str⟩))
    · by_cases h3 : kd = 3
      · obtain ⟨r, er, r0, r1, r2, r3⟩ := real_ev a b
        refine ⟨0, r, ⟨#[]⟩, Ev.congr (f := fun k => (chirographkeep_real.f k a b).bind fun t => chirographkeep_ValOf.j0 k kd 0 t ⟨#[]⟩) (fun k => ?_) (Ev.bind er (hj _ _ _)), fun _ _ => ?_⟩
        · simp only [chirographkeep_ValOf.f]
          rw [if_neg h1, if_neg h2, if_pos h3]
        · exact .inr (.inr (.inr (.inl ⟨h3, rfl, r0, r1, r2, r3, nil_str⟩)))
      · by_cases h4 : kd = 4
        · obtain ⟨t, et, t0, t1⟩ := clean_ev s
          refine ⟨0, 0, t, Ev.congr (fun k => ?_) (hj _ _ _), fun _ _ => ?_⟩
          · simp only [chirographkeep_ValOf.f]
            rw [if_neg h1, if_neg h2, if_neg h3, if_pos h4, et]
            rfl
          · exact .inr (.inr (.inr (.inr ⟨h4, rfl, rfl, by omega, t1⟩)))
        · refine ⟨0, 0, ⟨#[]⟩, Ev.congr (fun k => ?_) (hj _ _ _), fun p q => ?_⟩
          · simp only [chirographkeep_ValOf.f]
            rw [if_neg h1, if_neg h2, if_neg h3, if_neg h4]
          · exact .inl ⟨by omega, rfl, rfl, nil_str⟩
theorem val_ev (kd a b : Int) (s : ByteArray) : ∃ (q n bt : Int) (t : ByteArray), Ev (fun k => chirographkeep_Val.f k kd a b s) (q, n, bt, t) ∧ GoodV q n bt t := by
  have hp := picked_emod kd 5 (by omega) (by omega)
  obtain ⟨n, bt, t, ev, hg⟩ := valOf_ev (kd % 5) kd a b s
  refine ⟨kd % 5, n, bt, t, Ev.congr (f := fun k => (chirographkeep_ValOf.f k (kd % 5) kd a b s).bind fun bt109 => (some (bt109.1, bt109.2.1, bt109.2.2.1, bt109.2.2.2))) (fun k => ?_) (Ev.bind ev (Ev.now _)), hg (by omega) (by omega)⟩
  simp only [chirographkeep_Val.f]
  rw [hp]
  rfl

theorem mag0 : mag 0 = 0 := by unfold mag; rw [if_pos (by omega)]
theorem key_inj {x y : Nat} (hx : x < 18446744073709551616) (hy : y < 18446744073709551616) (fx : x ≠ 9223372036854775808) (fy : y ≠ 9223372036854775808) (h : key x = key y) : x = y := by
  unfold key at h
  by_cases sx : x / 9223372036854775808 % 2 = 1
  · by_cases sy : y / 9223372036854775808 % 2 = 1
    · rw [if_pos sx, if_pos sy] at h
      have := mag_inj (r := x % 9223372036854775808) (s := y % 9223372036854775808) (by omega)
      omega
    · rw [if_pos sx, if_neg sy] at h
      have := mag_inj (r := x % 9223372036854775808) (s := 0) (by rw [mag0]; omega)
      omega
  · by_cases sy : y / 9223372036854775808 % 2 = 1
    · rw [if_neg sx, if_pos sy] at h
      have := mag_inj (r := y % 9223372036854775808) (s := 0) (by rw [mag0]; omega)
      omega
    · rw [if_neg sx, if_neg sy] at h
      have := mag_inj (r := x % 9223372036854775808) (s := y % 9223372036854775808) (by omega)
      omega
theorem size_nil {s : ByteArray} (h : s.toList = []) : (s.size : Int) = 0 := by
  rw [ByteArray.toList_eq] at h
  have : s.data.toList.length = 0 := by rw [h]; rfl
  have e : s.size = s.data.toList.length := by cases s; rfl
  omega
theorem check_ev {q n b : Int} {s : ByteArray} (h : GoodV q n b s) : Ev (fun k => value_Check.f k q n b s) 0 := by
  have hq : 0 ≤ q ∧ q ≤ 4 := by rcases h with h | h | h | h | h <;> omega
  refine Ev.congr (f := fun k => value_Check.j0 k false q n b s) (fun k => ?_) ?_
  · simp only [value_Check.f]
    rw [if_neg (by omega), show decide (q > 4) = false from decide_eq_false (by omega)]
  have hs : (s.size : Int) ≤ 40 := by
    rcases h with h | h | h | h | h
    · have := size_nil h.2.2.2; omega
    · have := size_nil h.2.2.2; omega
    · have := size_nil h.2.2; omega
    · have := size_nil h.2.2.2.2.2.2; omega
    · exact h.2.2.2.1
  refine Ev.step (f := fun k => value_Check.j1 k false q n b s) (fun k => ?_) ?_
  · simp only [value_Check.j0]
    rw [if_neg (by simp), if_neg (by omega)]
    rcases h with ⟨h1, h2, h3, h4⟩ | ⟨h1, h2, h3, h4⟩ | ⟨h1, h3, h4⟩ | ⟨h1, h2, _, _, _, _, h4⟩ | ⟨h1, h2, h3, _⟩
    · rw [if_neg (by omega), if_pos h4, if_neg (by omega), if_pos h3, if_neg (by omega), if_neg (by omega), h2]; rfl
    · rw [if_neg (by omega), if_pos h4, if_neg (by omega), if_pos h3, if_neg (by omega), if_pos h1]
    · rw [if_neg (by omega), if_pos h4, if_neg (by omega), if_pos h3, if_pos h1]
    · rw [if_neg (by omega), if_pos h4, if_pos h1, if_neg (by omega), if_neg (by omega), h2]; rfl
    · rw [if_pos h1, if_neg (by omega), if_pos h3, if_neg (by omega), if_neg (by omega), h2]; rfl
  have hj2 : Ev (fun k => value_Check.j2 k false) 0 := Ev.step (f := fun _ => some 0) (fun k => by simp only [value_Check.j2]; rw [if_neg (by simp)]) (Ev.now _)
  rcases h with ⟨h1, h2, h3, h4⟩ | ⟨h1, h2, h3, h4⟩ | ⟨h1, h3, h4⟩ | ⟨h1, h2, b0, b1, b2, b3, h4⟩ | ⟨h1, h2, h3, h5, h6⟩
  · refine Ev.step (f := fun _ => some 0) (fun k => ?_) (Ev.now _)
    simp only [value_Check.j1]
    rw [if_neg (by simp), if_neg (by omega), if_neg (by omega), if_neg (by omega)]
  · refine Ev.step (f := fun _ => some 0) (fun k => ?_) (Ev.now _)
    simp only [value_Check.j1]
    rw [if_neg (by simp), if_pos h1]
    rcases h2 with h2 | h2
    · rw [if_pos h2]
    · rw [if_neg (by omega), if_pos h2]
  · refine Ev.step (f := fun _ => some 0) (fun k => ?_) (Ev.now _)
    simp only [value_Check.j1]
    rw [if_neg (by simp), if_neg (by omega), if_neg (by omega), if_neg (by omega)]
  · obtain ⟨B, rfl⟩ := Int.eq_ofNat_of_zero_le b0
    have hB : B % 9223372036854775808 < 9218868437227405312 := by omega
    have e1 : (FloatKind.f64.format.order B B != some Ordering.eq) = false := by
      have h := eq_fin B B hB hB
      rw [decide_eq_true rfl] at h
      show (!(Ieee.double.order B B == some Ordering.eq)) = false
      rw [h]; rfl
    by_cases hz : B = 0
    · subst hz
      refine Ev.step (f := fun k => value_Check.j2 k false) (fun k => ?_) hj2
      simp only [value_Check.j1, Int.toNat_natCast, e1]
      rw [if_neg (by simp), if_neg (by omega), if_pos h1, if_neg (by simp)]
      have e2 : (FloatKind.f64.format.order 0 0 == some Ordering.eq) = true := by decide +kernel
      rw [if_pos e2, show math_Signbit.f 0 = some false from by decide +kernel]
      rfl
    · refine Ev.step (f := fun k => value_Check.j2 k false) (fun k => ?_) hj2
      simp only [value_Check.j1, Int.toNat_natCast, e1]
      rw [if_neg (by simp), if_neg (by omega), if_pos h1, if_neg (by simp)]
      have e2 : (FloatKind.f64.format.order B 0 == some Ordering.eq) = false := by
        have h := eq_fin B 0 hB (by decide)
        rw [show FloatKind.f64.format = Ieee.double from rfl, h]
        exact decide_eq_false (fun hk => hz (key_inj (by omega) (by omega) (by omega) (by omega) hk))
      rw [e2, if_neg (by simp)]
  · refine Ev.step (f := fun _ => some 0) (fun k => ?_) (Ev.now _)
    simp only [value_Check.j1]
    rw [if_neg (by simp), if_neg (by omega), if_neg (by omega), if_pos h1]
    rw [ByteArray.toList_eq] at h6
    unfold utf8_ValidString.f
    rw [if_pos (by omega), h6]
    rfl
/-! ### the order of values -/
def num (q n b : Int) : Int := if q = 3 then key b.toNat else n
def Lt (q n b : Int) (s : ByteArray) (q' n' b' : Int) (s' : ByteArray) : Prop := q < q' ∨ (q = q' ∧ (num q n b < num q' n' b' ∨ (num q n b = num q' n' b' ∧ s.toList < s'.toList)))
instance (q n b : Int) (s : ByteArray) (q' n' b' : Int) (s' : ByteArray) : Decidable (Lt q n b s q' n' b' s') := by unfold Lt; infer_instance
def cmp (q n b : Int) (s : ByteArray) (q' n' b' : Int) (s' : ByteArray) : Int := if Lt q n b s q' n' b' s' then -1 else if Lt q' n' b' s' q n b s then 1 else 0
theorem list_tri {a b : List UInt8} (h : ¬ a < b) (h2 : ¬ b < a) : a = b := List.le_antisymm (List.not_lt.1 h2) (List.not_lt.1 h)
theorem lt_tri {q n b : Int} {s : ByteArray} {q' n' b' : Int} {s' : ByteArray} (g : GoodV q n b s) (g' : GoodV q' n' b' s') (h : ¬ Lt q n b s q' n' b' s') (h' : ¬ Lt q' n' b' s' q n b s) : q = q' ∧ n = n' ∧ b = b' ∧ s.toList = s'.toList := by
  unfold Lt at h h'
  have hq : q = q' := by
    by_cases h1 : q < q'
    · exact absurd (.inl h1) h
    · by_cases h2 : q' < q
      · exact absurd (.inl h2) h'
      · omega
  subst hq
  have hn : num q n b = num q n' b' := by
    by_cases h1 : num q n b < num q n' b'
    · exact absurd (.inr ⟨rfl, .inl h1⟩) h
    · by_cases h2 : num q n' b' < num q n b
      · exact absurd (.inr ⟨rfl, .inl h2⟩) h'
      · omega
  have hs : s.toList = s'.toList := list_tri (fun hl => h (.inr ⟨rfl, .inr ⟨hn, hl⟩⟩)) (fun hl => h' (.inr ⟨rfl, .inr ⟨hn.symm, hl⟩⟩))
  unfold num at hn
  by_cases h3 : q = 3
  · rw [if_pos h3, if_pos h3] at hn
    rcases g with g | g | g | g | g <;> rcases g' with g' | g' | g' | g' | g' <;> try omega
    obtain ⟨_, n0, b0, b1, _, b3, _⟩ := g
    obtain ⟨_, n0', b0', b1', _, b3', _⟩ := g'
    have := key_inj (x := b.toNat) (y := b'.toNat) (by omega) (by omega) (by omega) (by omega) hn
    exact ⟨rfl, by omega, by omega, hs⟩
  · rw [if_neg h3, if_neg h3] at hn
    refine ⟨rfl, hn, ?_, hs⟩
    rcases g with g | g | g | g | g <;> rcases g' with g' | g' | g' | g' | g' <;> omega
theorem lt_asymm {q n b : Int} {s : ByteArray} {q' n' b' : Int} {s' : ByteArray} (h : Lt q n b s q' n' b' s') : ¬ Lt q' n' b' s' q n b s := by
  intro h'
  unfold Lt at h h'
  rcases h with h | ⟨h1, h | ⟨h2, h3⟩⟩ <;> rcases h' with h' | ⟨h1', h' | ⟨h2', h3'⟩⟩ <;> first | omega | exact List.lt_asymm h3 h3'
theorem lt_irrefl {q n b : Int} {s s' : ByteArray} (e : s.toList = s'.toList) : ¬ Lt q n b s q n b s' := by
  intro h
  unfold Lt at h
  rw [e] at h
  rcases h with h | ⟨_, h | ⟨_, h⟩⟩
  · omega
  · omega
  · exact List.lt_irrefl _ h
theorem lt_trans {q n b : Int} {s : ByteArray} {q' n' b' : Int} {s' : ByteArray} {q2 n2 b2 : Int} {s2 : ByteArray} (h : Lt q n b s q' n' b' s') (h' : Lt q' n' b' s' q2 n2 b2 s2) : Lt q n b s q2 n2 b2 s2 := by
  unfold Lt at h h' ⊢
  rcases h with h | ⟨h1, h | ⟨h2, h3⟩⟩ <;> rcases h' with h' | ⟨h1', h' | ⟨h2', h3'⟩⟩ <;> first | (left; omega) | (right; refine ⟨by omega, ?_⟩; first | (left; omega) | (right; exact ⟨by omega, List.lt_trans h3 h3'⟩))
theorem order_ev {q n b : Int} {s : ByteArray} {q' n' b' : Int} {s' : ByteArray} (g : GoodV q n b s) (g' : GoodV q' n' b' s') : Ev (fun k => value_order.f k q n b s q' n' b' s') (cmp q n b s q' n' b' s') := by
  have hj : ∀ l m : Bool, (l = decide (Lt q n b s q' n' b' s')) → (m = decide (Lt q' n' b' s' q n b s)) → Ev (fun k => value_order.j0 k l m) (cmp q n b s q' n' b' s') := by
    intro l m hl hm
    refine Ev.step (f := fun _ => some (cmp q n b s q' n' b' s')) (fun k => ?_) (Ev.now _)
    simp only [value_order.j0, cmp, hl, hm, decide_eq_true_eq]
    split
    · rfl
    · split <;> rfl
  by_cases hq : q = q'
  · subst hq
    have hlt : ∀ n b (s : ByteArray) n' b' (s' : ByteArray), Lt q n b s q n' b' s' ↔ (num q n b < num q n' b' ∨ (num q n b = num q n' b' ∧ s.toList < s'.toList)) := by
      intro n b s n' b' s'
      unfold Lt
      constructor
      · rintro (h | ⟨_, h⟩)
        · omega
        · exact h
      · intro h; exact .inr ⟨rfl, h⟩
    have hno : ∀ a : List UInt8, ¬ a < ([] : List UInt8) := fun a h => by cases a <;> simp at h
    by_cases h3 : q = 3
    · refine Ev.congr (fun k => ?_) (hj (FloatKind.f64.format.order ((b : Int).toNat) ((b' : Int).toNat) == some Ordering.lt) (FloatKind.f64.format.order ((b : Int).toNat) ((b' : Int).toNat) == some Ordering.gt) ?_ ?_)
      · simp only [value_order.f]
        rw [if_pos trivial, if_pos h3]
      all_goals
        rcases g with g | g | g | g | g <;> try omega
        rcases g' with g' | g' | g' | g' | g' <;> try omega
        obtain ⟨_, _, b0, b1, b2, _, s0⟩ := g
        obtain ⟨_, _, b0', b1', b2', _, s0'⟩ := g'
      · rw [show FloatKind.f64.format = Ieee.double from rfl, lt_fin _ _ (by omega) (by omega)]
        refine decide_eq_decide.2 ?_
        rw [hlt, s0, s0']
        unfold num
        rw [if_pos h3, if_pos h3]
        exact ⟨.inl, fun h => h.elim id (fun h => absurd h.2 (hno _))⟩
      · rw [show FloatKind.f64.format = Ieee.double from rfl, gt_fin _ _ (by omega) (by omega)]
        refine decide_eq_decide.2 ?_
        rw [hlt, s0, s0']
        unfold num
        rw [if_pos h3, if_pos h3]
        exact ⟨.inl, fun h => h.elim id (fun h => absurd h.2 (hno _))⟩
    · by_cases h4 : q = 4
      · have hn : n = 0 ∧ n' = 0 := by
          constructor
          · rcases g with g | g | g | g | g <;> omega
          · rcases g' with g' | g' | g' | g' | g' <;> omega
        have hnum : num q n b = num q n' b' := by unfold num; rw [if_neg h3, if_neg h3, hn.1, hn.2]
        refine Ev.congr (fun k => ?_) (hj (Op.bytesLess s.toList s'.toList) (!(Op.bytesLess s.toList s'.toList) && !(s.toList == s'.toList)) ?_ ?_)
        · simp only [value_order.f]
          rw [if_pos trivial, if_neg h3, if_pos h4]
        · rw [less_eq]
          refine decide_eq_decide.2 ?_
          rw [hlt]
          exact ⟨fun h => .inr ⟨hnum, h⟩, fun h => h.elim (fun h => by omega) (fun h => h.2)⟩
        · rw [less_eq, Bool.eq_iff_iff]
          simp only [Bool.and_eq_true, Bool.not_eq_true', decide_eq_false_iff_not, beq_eq_false_iff_ne, decide_eq_true_eq]
          rw [hlt]
          constructor
          · rintro ⟨h1, h2⟩
            right
            refine ⟨hnum.symm, ?_⟩
            by_cases h : s'.toList < s.toList
            · exact h
            · exact absurd (list_tri h1 h) h2
          · rintro (h | ⟨_, h⟩)
            · omega
            · exact ⟨fun h2 => List.lt_asymm h h2, fun e => by rw [e] at h; exact List.lt_irrefl _ h⟩
      · have hs : s.toList = [] ∧ s'.toList = [] := by
          constructor
          · rcases g with g | g | g | g | g
            · exact g.2.2.2
            · exact g.2.2.2
            · exact g.2.2
            · omega
            · omega
          · rcases g' with g' | g' | g' | g' | g'
            · exact g'.2.2.2
            · exact g'.2.2.2
            · exact g'.2.2
            · omega
            · omega
        refine Ev.congr (fun k => ?_) (hj (decide (n < n')) (decide (n > n')) ?_ ?_)
        · simp only [value_order.f]
          rw [if_pos trivial, if_neg h3, if_neg h4]
        · refine decide_eq_decide.2 ?_
          rw [hlt, hs.1, hs.2]
          unfold num
          rw [if_neg h3, if_neg h3]
          exact ⟨.inl, fun h => h.elim id (fun h => absurd h.2 (hno _))⟩
        · refine decide_eq_decide.2 ?_
          rw [hlt, hs.1, hs.2]
          unfold num
          rw [if_neg h3, if_neg h3]
          exact ⟨.inl, fun h => h.elim id (fun h => absurd h.2 (hno _))⟩
  · refine Ev.congr (fun k => ?_) (hj (decide (q < q')) (decide (q > q')) ?_ ?_)
    · simp only [value_order.f]
      rw [if_neg hq]
    · refine decide_eq_decide.2 ?_
      unfold Lt
      exact ⟨.inl, fun h => h.elim id (fun h => absurd h.1 hq)⟩
    · refine decide_eq_decide.2 ?_
      unfold Lt
      exact ⟨.inl, fun h => h.elim id (fun h => absurd h.1.symm hq)⟩
theorem compare_ev {q n b : Int} {s : ByteArray} {q' n' b' : Int} {s' : ByteArray} (g : GoodV q n b s) (g' : GoodV q' n' b' s') : Ev (fun k => value_Compare.f k q n b s q' n' b' s') (cmp q n b s q' n' b' s', 0) := by
  have hb : Ev (fun k => value_both.f k q n b s q' n' b' s') 0 := by
    refine Ev.congr (f := fun k => (value_Check.f k q n b s).bind fun t117 => (if t117 = 0 then ((value_Check.f k q' n' b' s').bind fun t118 => (some t118)) else (some t117))) (fun k => by simp only [value_both.f]) ?_
    refine Ev.bind (check_ev g) ?_
    simp only [if_true]
    exact Ev.bind (check_ev g') (Ev.now _)
  refine Ev.congr (f := fun k => (value_both.f k q n b s q' n' b' s').bind fun t123 => (if t123 = 0 then ((value_order.f k q n b s q' n' b' s').bind fun t124 => (some (t124, 0))) else (some (0, t123)))) (fun k => by simp only [value_Compare.f]) ?_
  refine Ev.bind hb ?_
  simp only [if_true]
  exact Ev.bind (order_ev g g') (Ev.now _)

end Go.Proofs.YtcbdhdblchmofaaDoor.PureV
