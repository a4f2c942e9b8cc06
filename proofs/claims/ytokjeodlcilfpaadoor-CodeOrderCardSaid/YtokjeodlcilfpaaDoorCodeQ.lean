/- The order of values and of their bytes. Conditions: none. -/
import Derived.Test.YtokjeodlcilfpaaDoorCodeF
import Derived.Laws.Strings
namespace Go.Proofs.YtokjeodlcilfpaaDoor.MReal
open Ieee
theorem key_lt {x : Nat} (h : x % 9223372036854775808 < 9218868437227405312) : -(mag 9218868437227405312 : Int) < key x ∧ key x < (mag 9218868437227405312 : Int) := by
  have := mag_mono h
  unfold key
  split <;> omega
theorem mag_inf_pos : 0 < mag 9218868437227405312 := by
  have := mag_mono (r := 0) (s := 9218868437227405312) (by decide)
  omega
theorem read_inf {w : Nat} (h : w % 9223372036854775808 = 9218868437227405312) : double.read w = .infinity (w / 9223372036854775808 % 2 == 1) ∧ key w = if w / 9223372036854775808 % 2 = 1 then -(mag 9218868437227405312 : Int) else (mag 9218868437227405312 : Int) := by
  have hs : double.signWeight = 9223372036854775808 := rfl
  have hb : double.binade = 4503599627370496 := rfl
  have hi : double.infRung = 9218868437227405312 := rfl
  constructor
  · unfold Format.read
    simp only [hs, hb, hi]
    rw [if_neg (by omega), if_neg (by omega), if_pos h]
  · unfold key
    rw [h]
theorem cmp_lt {a b : Int} (h : a < b) : compare a b = .lt := by simp [compare, compareOfLessAndEq, h]
theorem cmp_gt {a b : Int} (h : b < a) : compare a b = .gt := by simp only [compare, compareOfLessAndEq]; rw [if_neg (by omega), if_neg (by omega)]
theorem cmp_eq {a b : Int} (h : a = b) : compare a b = .eq := by subst h; simp [compare, compareOfLessAndEq]
/-- The order of reals that are numbers, and of those beyond all. -/
theorem order_le (x y : Nat) (hx : x % 9223372036854775808 ≤ 9218868437227405312) (hy : y % 9223372036854775808 ≤ 9218868437227405312) : double.order x y = some (compare (key x) (key y)) := by
  have hp := mag_inf_pos
  by_cases cx : x % 9223372036854775808 = 9218868437227405312 <;> by_cases cy : y % 9223372036854775808 = 9218868437227405312
  · obtain ⟨e1, k1⟩ := read_inf cx
    obtain ⟨e2, k2⟩ := read_inf cy
    unfold Format.order
    rw [e1, e2, k1, k2]
    by_cases sx : x / 9223372036854775808 % 2 = 1 <;> by_cases sy : y / 9223372036854775808 % 2 = 1
    · rw [if_pos sx, if_pos sy, cmp_eq rfl, show (x / 9223372036854775808 % 2 == 1) = true by simp [sx], show (y / 9223372036854775808 % 2 == 1) = true by simp [sy]]; rfl
    · rw [if_pos sx, if_neg sy, cmp_lt (by omega), show (x / 9223372036854775808 % 2 == 1) = true by simp [sx], show (y / 9223372036854775808 % 2 == 1) = false by simp [sy]]; rfl
    · rw [if_neg sx, if_pos sy, cmp_gt (by omega), show (x / 9223372036854775808 % 2 == 1) = false by simp [sx], show (y / 9223372036854775808 % 2 == 1) = true by simp [sy]]; rfl
    · rw [if_neg sx, if_neg sy, cmp_eq rfl, show (x / 9223372036854775808 % 2 == 1) = false by simp [sx], show (y / 9223372036854775808 % 2 == 1) = false by simp [sy]]; rfl
  · obtain ⟨e1, k1⟩ := read_inf cx
    obtain ⟨s, m, a, e2, k2⟩ := read_fin y (by omega)
    have hk := key_lt (x := y) (by omega)
    unfold Format.order
    rw [e1, e2, k1]
    by_cases sx : x / 9223372036854775808 % 2 = 1
    · rw [if_pos sx, cmp_lt (by omega)]; simp [Datum.order, sx]
    · rw [if_neg sx, cmp_gt (by omega)]; simp [Datum.order, sx]
  · obtain ⟨s, m, a, e1, k1⟩ := read_fin x (by omega)
    obtain ⟨e2, k2⟩ := read_inf cy
    have hk := key_lt (x := x) (by omega)
    unfold Format.order
    rw [e1, e2, k2]
    by_cases sy : y / 9223372036854775808 % 2 = 1
    · rw [if_pos sy, cmp_gt (by omega)]; simp [Datum.order, sy]
    · rw [if_neg sy, cmp_lt (by omega)]; simp [Datum.order, sy]
  · exact order_fin x y (by omega) (by omega)
theorem lt_le (x y : Nat) (hx : x % 9223372036854775808 ≤ 9218868437227405312) (hy : y % 9223372036854775808 ≤ 9218868437227405312) : (double.order x y == some .lt) = decide (key x < key y) := by
  rw [order_le x y hx hy]
  simp only [compare, compareOfLessAndEq]
  by_cases h : key x < key y
  · simp [h]
  · by_cases e : key x = key y <;> simp [h, e]
theorem gt_le (x y : Nat) (hx : x % 9223372036854775808 ≤ 9218868437227405312) (hy : y % 9223372036854775808 ≤ 9218868437227405312) : (double.order x y == some .gt) = decide (key y < key x) := by
  rw [order_le x y hx hy]
  simp only [compare, compareOfLessAndEq]
  by_cases h : key x < key y
  · simp [h]; omega
  · by_cases e : key x = key y
    · simp [e]
    · simp [h, e]; omega
end Go.Proofs.YtokjeodlcilfpaaDoor.MReal
namespace Go.Proofs.YtokjeodlcilfpaaDoor.Vm
open Go Go.RowKit Go.Lib
set_option linter.unusedVariables false
set_option linter.unusedSimpArgs false
/-- Bytes of which the one stands first: they part at a place. -/
def Fst (x y : List Int) : Prop := ∃ p c d x' y', x = p ++ c :: x' ∧ y = p ++ d :: y' ∧ c < d ∧ 0 ≤ c ∧ d < 256
theorem Fst.app {x y r s : List Int} (h : Fst x y) : Fst (x ++ r) (y ++ s) := by
  obtain ⟨p, c, d, x', y', rfl, rfl, h⟩ := h
  exact ⟨p, c, d, x' ++ r, y' ++ s, by simp, by simp, h⟩
theorem Fst.pre {x y : List Int} (p : List Int) (h : Fst x y) : Fst (p ++ x) (p ++ y) := by
  obtain ⟨q, c, d, x', y', rfl, rfl, h⟩ := h
  exact ⟨p ++ q, c, d, x', y', by simp, by simp, h⟩
theorem Fst.now {c d : Int} {x y : List Int} (h : c < d) (h0 : 0 ≤ c) (h1 : d < 256) : Fst (c :: x) (d :: y) := ⟨[], c, d, x, y, rfl, rfl, h, h0, h1⟩
/-- How lists of bytes stand to each other. -/
def lexc : List Int → List Int → Int
  | [], [] => 0
  | [], _ :: _ => -1
  | _ :: _, [] => 1
  | a :: x, b :: y => if a < b then -1 else if b < a then 1 else lexc x y
theorem lexc_pre : ∀ (p x y : List Int), lexc (p ++ x) (p ++ y) = lexc x y
  | [], x, y => rfl
  | a :: p, x, y => by
    simp only [List.cons_append, lexc]
    rw [if_neg (by omega), if_neg (by omega), lexc_pre p x y]
theorem notI_u8 {c : Int} (h : 0 ≤ c ∧ c < 256) : notI .u8 c = 255 - c := by
  have : ∀ c : Fin 256, notI .u8 ((c.val : Nat) : Int) = 255 - ((c.val : Nat) : Int) := by decide +kernel
  have := this ⟨c.toNat, by omega⟩
  simpa [show ((c.toNat : Nat) : Int) = c by omega] using this
theorem lexc_fst {x y r s : List Int} (B : Bool) (h : Fst x y) : lexc (x.map (flipB B) ++ r) (y.map (flipB B) ++ s) = if B then 1 else -1 := by
  obtain ⟨p, c, d, x', y', rfl, rfl, h, h0, h1⟩ := h
  simp only [List.map_append, List.map_cons, List.append_assoc, List.cons_append]
  rw [lexc_pre]
  simp only [lexc]
  cases B with
  | false =>
    rw [show flipB false c = c from rfl, show flipB false d = d from rfl, if_pos h]; rfl
  | true =>
    rw [show flipB true c = notI .u8 c from rfl, show flipB true d = notI .u8 d from rfl, notI_u8 (by omega), notI_u8 (by omega), if_neg (by omega), if_pos (by omega)]; rfl
theorem lexc_anti : ∀ x y : List Int, lexc y x = -(lexc x y)
  | [], [] => rfl
  | [], _ :: _ => rfl
  | _ :: _, [] => rfl
  | a :: x, b :: y => by
    simp only [lexc]
    by_cases h1 : a < b
    · rw [if_neg (show ¬ b < a by omega), if_pos h1, if_pos h1]; rfl
    · by_cases h2 : b < a
      · rw [if_pos h2, if_neg h1, if_pos h2]
      · rw [if_neg h2, if_neg h1, if_neg h1, if_neg h2, lexc_anti x y]
/-- Numbers as bytes, the greatest first. -/
def digs : Nat → Nat → List Int
  | 0, _ => []
  | k + 1, N => digs k (N / 256) ++ [((N % 256 : Nat) : Int)]
theorem digs_fst : ∀ (k N M : Nat), N < M → M < 256 ^ k → Fst (digs k N) (digs k M)
  | 0, N, M, h, hM => by simp at hM; omega
  | k + 1, N, M, h, hM => by
    by_cases c : N / 256 < M / 256
    · exact (digs_fst k _ _ c (by rw [Nat.pow_succ] at hM; omega)).app
    · have e : N / 256 = M / 256 := by omega
      rw [digs, digs, e]
      exact Fst.pre _ (Fst.now (by omega) (by omega) (by omega))
theorem eightU_digs (N : Nat) : eightU N = digs 8 N := by
  unfold eightU
  simp only [digs, List.range, List.range.loop, List.map_cons, List.map_nil, List.nil_append, List.cons_append, Nat.div_div_eq_div_mul, Nat.reduceMul, Nat.reduceSub, Nat.reducePow, Nat.div_one]
theorem eight_fst {N M : Nat} (h : N < M) (hM : M < 18446744073709551616) : Fst (eightU N) (eightU M) := by
  rw [eightU_digs, eightU_digs]
  exact digs_fst 8 N M h (by simpa using hM)
/-- How texts stand to each other. -/
def lexl : List Int → List Int → Bool
  | _, [] => false
  | [], _ :: _ => true
  | a :: x, b :: y => decide (a < b) || (decide (a = b) && lexl x y)
theorem lexl_eq : ∀ x y : List UInt8, Op.bytesLess x y = lexl (x.map fun c => ((c.toNat : Nat) : Int)) (y.map fun c => ((c.toNat : Nat) : Int))
  | x, [] => by cases x <;> rfl
  | [], _ :: _ => rfl
  | a :: x, b :: y => by
    simp only [Op.bytesLess, List.map_cons, lexl]
    rw [lexl_eq x y]
    congr 1
    · rw [Bool.eq_iff_iff]; simp [UInt8.lt_iff_toNat_lt]
    · congr 1
      rw [Bool.eq_iff_iff]; simp [← UInt8.toNat_inj]; omega
theorem esc_fst : ∀ (x y : List Int), (∀ c ∈ x, 0 ≤ c ∧ c < 256) → (∀ c ∈ y, 0 ≤ c ∧ c < 256) → lexl x y = true → Fst (esc x ++ [0, 1]) (esc y ++ [0, 1])
  | x, [], _, _, h => by cases x <;> simp [lexl] at h
  | [], b :: y, _, hy, _ => by
    have hb := hy b (by simp)
    simp only [esc, List.nil_append]
    split
    · exact Fst.pre [0] (Fst.now (by omega) (by omega) (by omega))
    · exact Fst.now (by omega) (by omega) (by omega)
  | a :: x, b :: y, hx, hy, h => by
    have ha := hx a (by simp)
    have hb := hy b (by simp)
    simp only [lexl, Bool.or_eq_true, Bool.and_eq_true, decide_eq_true_eq] at h
    rcases h with h | ⟨rfl, h⟩
    · simp only [esc]
      rw [if_neg (show b ≠ 0 by omega)]
      split
      · exact Fst.now (by omega) (by omega) (by omega)
      · exact Fst.now h (by omega) (by omega)
    · have ih := esc_fst x y (fun c hc => hx c (List.mem_cons_of_mem _ hc)) (fun c hc => hy c (List.mem_cons_of_mem _ hc)) h
      simp only [esc]
      split
      · exact Fst.pre [0, 255] ih
      · exact Fst.pre [a] ih
/-- Which of two values stands first. -/
def lessB (v w : Vl) : Bool :=
  if v.kd = w.kd then (if v.kd = 3 then FloatKind.f64.format.order v.b.toNat w.b.toNat == some .lt else if v.kd = 4 then Op.bytesLess v.s.toList w.s.toList else decide (v.n < w.n)) else decide (v.kd < w.kd)
def moreB (v w : Vl) : Bool :=
  if v.kd = w.kd then (if v.kd = 3 then FloatKind.f64.format.order v.b.toNat w.b.toNat == some .gt else if v.kd = 4 then !(Op.bytesLess v.s.toList w.s.toList || v.s.toList == w.s.toList) else decide (w.n < v.n)) else decide (w.kd < v.kd)
def ordV (v w : Vl) : Int := if lessB v w then -1 else if moreB v w then 1 else 0
theorem txB_byte (s : ByteArray) : ∀ c ∈ txB s, 0 ≤ c ∧ c < 256 := fun c hc => by
  obtain ⟨u, _, rfl⟩ := List.mem_map.1 hc
  have := u.toNat_lt
  omega
theorem turn_lt {n m : Nat} (hn : FinW n) (hm : FinW m) (h : MReal.key n < MReal.key m) : turnU n < turnU m := by
  obtain ⟨a1, a2, a3⟩ := hn
  obtain ⟨b1, b2, b3⟩ := hm
  have key : ∀ r s : Nat, MReal.mag r < MReal.mag s → r < s := fun r s h => by
    rcases Nat.lt_trichotomy r s with h1 | h1 | h1
    · exact h1
    · subst h1; omega
    · have := MReal.mag_mono h1; omega
  unfold MReal.key at h
  unfold turnU
  by_cases sn : n / 9223372036854775808 % 2 = 1 <;> by_cases sm : m / 9223372036854775808 % 2 = 1
  · rw [if_pos sn, if_pos sm] at h
    have := key _ _ (show MReal.mag (m % 9223372036854775808) < MReal.mag (n % 9223372036854775808) by omega)
    rw [if_pos (by omega), if_pos (by omega)]; omega
  · rw [if_pos (by omega), if_neg (by omega)]; omega
  · rw [if_neg sn, if_pos sm] at h; omega
  · rw [if_neg sn, if_neg sm] at h
    have := key _ _ (show MReal.mag (n % 9223372036854775808) < MReal.mag (m % 9223372036854775808) by omega)
    rw [if_neg (by omega), if_neg (by omega)]; omega
theorem turn_eq {n m : Nat} (hn : FinW n) (hm : FinW m) (h : MReal.key n = MReal.key m) : n = m := by
  obtain ⟨a1, a2, a3⟩ := hn
  obtain ⟨b1, b2, b3⟩ := hm
  have z : MReal.mag 0 = 0 := by decide
  have pos : ∀ r : Nat, 0 < r → 0 < MReal.mag r := fun r hr => by have := MReal.mag_mono hr; omega
  unfold MReal.key at h
  by_cases sn : n / 9223372036854775808 % 2 = 1 <;> by_cases sm : m / 9223372036854775808 % 2 = 1
  · rw [if_pos sn, if_pos sm] at h
    have := MReal.mag_inj (show MReal.mag (n % 9223372036854775808) = MReal.mag (m % 9223372036854775808) by omega)
    omega
  · rw [if_pos sn, if_neg sm] at h
    have := pos (n % 9223372036854775808) (by omega)
    omega
  · rw [if_neg sn, if_pos sm] at h
    have := pos (m % 9223372036854775808) (by omega)
    omega
  · rw [if_neg sn, if_neg sm] at h
    have := MReal.mag_inj (show MReal.mag (n % 9223372036854775808) = MReal.mag (m % 9223372036854775808) by omega)
    omega
theorem one_head {v : Vl} (h : Good v) : ∃ r, oneP v = (v.kd + 1) :: r ∧ 0 ≤ v.kd ∧ v.kd ≤ 4 := by
  cases h with
  | null => exact ⟨_, rfl, by dsimp only; omega, by dsimp only; omega⟩
  | bool n hn => exact ⟨_, rfl, by dsimp only; omega, by dsimp only; omega⟩
  | int n hn => exact ⟨_, rfl, by dsimp only; omega, by dsimp only; omega⟩
  | real n hn => exact ⟨_, rfl, by dsimp only; omega, by dsimp only; omega⟩
  | text s hs hv => exact ⟨_, rfl, by dsimp only; omega, by dsimp only; omega⟩
/-- What stands first has the bytes that stand first. -/
theorem less_fst {v w : Vl} (hv : Good v) (hw : Good w) (h : lessB v w = true) : Fst (oneP v) (oneP w) := by
  by_cases hk : v.kd = w.kd
  · unfold lessB at h
    rw [if_pos hk] at h
    cases hv with
    | null => cases hw <;> first | (simp at hk; done) | simp at h
    | bool n hn =>
      cases hw with
      | bool m hm =>
        simp at h
        show Fst [2, IntKind.u8.wrap n] [2, IntKind.u8.wrap m]
        have en : IntKind.u8.wrap n = n := by rcases hn with rfl | rfl <;> rfl
        have em : IntKind.u8.wrap m = m := by rcases hm with rfl | rfl <;> rfl
        rw [en, em]
        exact Fst.pre [2] (Fst.now h (by omega) (by omega))
      | _ => simp at hk
    | int n hn =>
      cases hw with
      | int m hm =>
        simp at h
        show Fst (3 :: eightU (n + 9223372036854775808).toNat) (3 :: eightU (m + 9223372036854775808).toNat)
        exact Fst.pre [3] (eight_fst (by omega) (by omega))
      | _ => simp at hk
    | real n hn =>
      cases hw with
      | real m hm =>
        simp only [if_true, Int.toNat_natCast] at h
        rw [show FloatKind.f64.format = Ieee.double from rfl, MReal.lt_le n m hn.2.1 hm.2.1, decide_eq_true_eq] at h
        show Fst (4 :: eightU (turnU (n : Int).toNat)) (4 :: eightU (turnU (m : Int).toNat))
        rw [Int.toNat_natCast, Int.toNat_natCast]
        have hm1 := hm.1
        exact Fst.pre [4] (eight_fst (turn_lt hn hm h) (by unfold turnU; split <;> omega))
      | _ => simp at hk
    | text s hs hvs =>
      cases hw with
      | text t ht hvt =>
        simp at h
        rw [lexl_eq, ByteArray.toList_eq, ByteArray.toList_eq] at h
        show Fst (5 :: (esc (txB s) ++ [0, 1])) (5 :: (esc (txB t) ++ [0, 1]))
        exact Fst.pre [5] (esc_fst (txB s) (txB t) (txB_byte s) (txB_byte t) h)
      | _ => simp at hk
  · unfold lessB at h
    rw [if_neg hk, decide_eq_true_eq] at h
    obtain ⟨r, e1, h1, h2⟩ := one_head hv
    obtain ⟨r', e2, h3, h4⟩ := one_head hw
    rw [e1, e2]
    exact Fst.now (by omega) (by omega) (by omega)
theorem lexl_anti : ∀ x y : List Int, lexl y x = !(lexl x y || decide (x = y))
  | [], [] => rfl
  | [], _ :: _ => rfl
  | _ :: _, [] => rfl
  | a :: x, b :: y => by
    simp only [lexl]
    rw [lexl_anti x y]
    by_cases h1 : a < b
    · simp [h1, show ¬ b < a by omega, show ¬ b = a by omega]
    · by_cases h2 : b < a
      · simp [h1, h2, show ¬ a = b by omega]
      · have : a = b := by omega
        subst this
        simp
theorem bytes_eq (x y : List UInt8) : (x == y) = decide ((x.map fun c => ((c.toNat : Nat) : Int)) = y.map fun c => ((c.toNat : Nat) : Int)) := by
  rw [Bool.eq_iff_iff, beq_iff_eq, decide_eq_true_eq]
  constructor
  · intro e; rw [e]
  · intro e
    exact (List.map_inj_right (fun a b hab => by
      have : a.toNat = b.toNat := by exact_mod_cast hab
      exact UInt8.toNat_inj.1 this)).1 e
theorem more_less {v w : Vl} (hv : Good v) (hw : Good w) : moreB v w = lessB w v := by
  unfold moreB lessB
  by_cases hk : v.kd = w.kd
  · rw [if_pos hk, if_pos hk.symm, ← hk]
    by_cases h3 : v.kd = 3
    · rw [if_pos h3, if_pos h3]
      cases hv with
      | real n hn =>
        cases hw with
        | real m hm =>
          show (FloatKind.f64.format.order (n : Int).toNat (m : Int).toNat == some .gt) = (FloatKind.f64.format.order (m : Int).toNat (n : Int).toNat == some .lt)
          rw [Int.toNat_natCast, Int.toNat_natCast, show FloatKind.f64.format = Ieee.double from rfl, MReal.gt_le n m hn.2.1 hm.2.1, MReal.lt_le m n hm.2.1 hn.2.1]
        | _ => simp at hk
      | _ => simp at h3
    · rw [if_neg h3, if_neg h3]
      by_cases h4 : v.kd = 4
      · rw [if_pos h4, if_pos h4, lexl_eq, lexl_eq, lexl_anti (v.s.toList.map fun c => ((c.toNat : Nat) : Int)) (w.s.toList.map fun c => ((c.toNat : Nat) : Int)), bytes_eq]
      · rw [if_neg h4, if_neg h4]
  · rw [if_neg hk, if_neg (fun e => hk e.symm)]
/-- Of which neither stands first, they are alike. -/
theorem same_val {v w : Vl} (hv : Good v) (hw : Good w) (h1 : lessB v w = false) (h2 : lessB w v = false) : v = w := by
  unfold lessB at h1 h2
  by_cases hk : v.kd = w.kd
  · rw [if_pos hk] at h1
    rw [if_pos hk.symm] at h2
    cases hv with
    | null => cases hw <;> first | rfl | simp at hk
    | bool n hn =>
      cases hw with
      | bool m hm => simp at h1 h2; rw [show n = m by omega]
      | _ => simp at hk
    | int n hn =>
      cases hw with
      | int m hm => simp at h1 h2; rw [show n = m by omega]
      | _ => simp at hk
    | real n hn =>
      cases hw with
      | real m hm =>
        simp only [if_true, Int.toNat_natCast] at h1 h2
        rw [show FloatKind.f64.format = Ieee.double from rfl, MReal.lt_le n m hn.2.1 hm.2.1, decide_eq_false_iff_not] at h1
        rw [show FloatKind.f64.format = Ieee.double from rfl, MReal.lt_le m n hm.2.1 hn.2.1, decide_eq_false_iff_not] at h2
        rw [turn_eq hn hm (by omega)]
      | _ => simp at hk
    | text s hs hvs =>
      cases hw with
      | text t ht hvt =>
        simp at h1 h2
        rw [lexl_eq] at h1 h2
        rw [lexl_anti, h1] at h2
        simp only [Bool.false_or, Bool.not_eq_false', decide_eq_true_eq] at h2
        have e : s.toList = t.toList := (List.map_inj_right (fun a b hab => by
          have : a.toNat = b.toNat := by exact_mod_cast hab
          exact UInt8.toNat_inj.1 this)).1 h2
        rw [ByteArray.toList_eq, ByteArray.toList_eq] at e
        have : s = t := by
          cases s; cases t
          congr 1
          exact Array.toList_inj.1 e
        rw [this]
      | _ => simp at hk
  · rw [if_neg hk] at h1
    rw [if_neg (fun e => hk e.symm)] at h2
    simp at h1 h2
    omega
/-- Values and what comes behind them: the values tell, or what comes behind. -/
theorem lexc_val {v w : Vl} (hv : Good v) (hw : Good w) (B : Bool) (r s : List Int) : lexc ((oneP v).map (flipB B) ++ r) ((oneP w).map (flipB B) ++ s) = if ordV v w = 0 then lexc r s else if B then -(ordV v w) else ordV v w := by
  unfold ordV
  rw [more_less hv hw]
  cases h1 : lessB v w with
  | true =>
    rw [lexc_fst B (less_fst hv hw h1)]
    cases B <;> rfl
  | false =>
    cases h2 : lessB w v with
    | true =>
      have := lexc_fst (r := s) (s := r) B (less_fst hw hv h2)
      rw [lexc_anti]
      rw [this]
      cases B <;> rfl
    | false =>
      have := same_val hv hw h1 h2
      subst this
      rw [lexc_pre]; rfl
/-- What the first so many columns tell. -/
def cUp (down : Int) (us ws : List Vl) : Nat → Int
  | 0 => 0
  | j + 1 => if cUp down us ws j = 0 then (match us[j]?, ws[j]? with
    | some a, some b => if dnB down j then -(ordV a b) else ordV a b
    | _, _ => 0) else cUp down us ws j
theorem lexc_row {down : Int} {us ws : List Vl} (hl : us.length = ws.length) (ha : ∀ v ∈ us, Good v) (hb : ∀ v ∈ ws, Good v) : ∀ (j : Nat), j ≤ us.length → ∀ r s : List Int, lexc (encP down 0 (us.take j) ++ r) (encP down 0 (ws.take j) ++ s) = if cUp down us ws j = 0 then lexc r s else cUp down us ws j
  | 0, _, r, s => by simp [cUp, encP]
  | j + 1, hj, r, s => by
    obtain ⟨a, h1⟩ : ∃ a, us[j]? = some a := ⟨_, List.getElem?_eq_getElem (by omega)⟩
    obtain ⟨b, h2⟩ : ∃ b, ws[j]? = some b := ⟨_, List.getElem?_eq_getElem (by omega)⟩
    have e1 : us.take (j + 1) = us.take j ++ [a] := by rw [List.take_add_one, h1]; rfl
    have e2 : ws.take (j + 1) = ws.take j ++ [b] := by rw [List.take_add_one, h2]; rfl
    have l1 : (us.take j).length = j := by rw [List.length_take]; omega
    have l2 : (ws.take j).length = j := by rw [List.length_take]; omega
    rw [e1, e2, encP_append, encP_append, l1, l2, List.append_assoc, List.append_assoc, lexc_row hl ha hb j (by omega)]
    simp only [encP, List.append_nil, Nat.zero_add, cUp, h1, h2]
    rw [lexc_val (ha a (List.mem_of_getElem? h1)) (hb b (List.mem_of_getElem? h2))]
    by_cases c : cUp down us ws j = 0
    · rw [if_pos c, if_pos c]
      by_cases d : ordV a b = 0
      · rw [if_pos d, d]; simp
      · rw [if_neg d]
        cases dnB down j with
        | true => rw [if_pos rfl, if_neg (by omega)]
        | false => rw [if_neg (by decide), if_neg d]
    · rw [if_neg c, if_neg c, if_neg c]
theorem lexc_enc {down : Int} {us ws : List Vl} (hl : us.length = ws.length) (ha : ∀ v ∈ us, Good v) (hb : ∀ v ∈ ws, Good v) : lexc (encP down 0 us) (encP down 0 ws) = cUp down us ws us.length := by
  have := lexc_row (down := down) hl ha hb us.length (Nat.le_refl _) [] []
  rw [List.take_length, hl, List.take_length, List.append_nil, List.append_nil, ← hl] at this
  rw [this]
  by_cases c : cUp down us ws us.length = 0
  · rw [if_pos c, c]; rfl
  · rw [if_neg c]
theorem lexl_lexc : ∀ x y : List Int, lexl x y = decide (lexc x y < 0)
  | [], [] => rfl
  | [], _ :: _ => rfl
  | _ :: _, [] => rfl
  | a :: x, b :: y => by
    simp only [lexl, lexc]
    rw [lexl_lexc x y]
    by_cases h1 : a < b
    · simp [h1]
    · by_cases h2 : b < a
      · simp [h1, h2, show ¬ a = b by omega]
      · have : a = b := by omega
        subst this
        simp
theorem lexc_zero : ∀ x y : List Int, lexc x y = 0 ↔ x = y
  | [], [] => by simp [lexc]
  | [], _ :: _ => by simp [lexc]
  | _ :: _, [] => by simp [lexc]
  | a :: x, b :: y => by
    simp only [lexc]
    by_cases h1 : a < b
    · simp [h1]; omega
    · by_cases h2 : b < a
      · simp [h1, h2]; omega
      · have : a = b := by omega
        subst this
        simp [lexc_zero x y]
end Go.Proofs.YtokjeodlcilfpaaDoor.Vm
