/- The order of finite real numbers, word by word: a key that rises as they rise. -/
import Ieee.Arith
namespace Go.Proofs.YtdigejpgjnhclaaDoor.MReal
open Ieee
/-- a finite rung's magnitude, in units of the least place -/
def mag (r : Nat) : Nat := if r < 4503599627370496 then r else (4503599627370496 + r % 4503599627370496) * 2 ^ (r / 4503599627370496 - 1)
theorem mag_succ (r : Nat) : mag r < mag (r + 1) := by
  unfold mag
  by_cases h1 : r + 1 < 4503599627370496
  · rw [if_pos (by omega), if_pos h1]; omega
  · rw [if_neg h1]
    by_cases h2 : r < 4503599627370496
    · rw [if_pos h2, show r + 1 = 4503599627370496 by omega]
      have e : (4503599627370496 + 4503599627370496 % 4503599627370496) * 2 ^ (4503599627370496 / 4503599627370496 - 1) = 4503599627370496 := by decide
      omega
    · rw [if_neg h2]
      have hq : 1 ≤ r / 4503599627370496 := by omega
      by_cases h3 : r % 4503599627370496 + 1 < 4503599627370496
      · rw [show (r + 1) / 4503599627370496 = r / 4503599627370496 by omega, show (r + 1) % 4503599627370496 = r % 4503599627370496 + 1 by omega]
        exact Nat.mul_lt_mul_of_pos_right (by omega) (Nat.two_pow_pos _)
      · rw [show (r + 1) / 4503599627370496 = r / 4503599627370496 + 1 by omega, show (r + 1) % 4503599627370496 = 0 by omega, show r / 4503599627370496 + 1 - 1 = (r / 4503599627370496 - 1) + 1 by omega, Nat.pow_succ, Nat.mul_comm (2 ^ _) 2, ← Nat.mul_assoc]
        exact Nat.mul_lt_mul_of_pos_right (by omega) (Nat.two_pow_pos _)
theorem mag_mono {r s : Nat} (h : r < s) : mag r < mag s := by
  induction s with
  | zero => omega
  | succ s ih =>
    by_cases e : r = s
    · subst e; exact mag_succ r
    · exact Nat.lt_trans (ih (by omega)) (mag_succ s)
theorem mag_inj {r s : Nat} (h : mag r = mag s) : r = s := by
  rcases Nat.lt_trichotomy r s with h1 | h1 | h1
  · have := mag_mono h1; omega
  · exact h1
  · have := mag_mono h1; omega
def key (w : Nat) : Int := if w / 9223372036854775808 % 2 = 1 then -(mag (w % 9223372036854775808) : Int) else (mag (w % 9223372036854775808) : Int)
theorem read_fin (w : Nat) (h : w % 9223372036854775808 < 9218868437227405312) : ∃ (s : Bool) (m a : Nat), double.read w = .number s m (double.leastPlace + (a : Int)) ∧ key w = signed s m a := by
  have hs : double.signWeight = 9223372036854775808 := rfl
  have hb : double.binade = 4503599627370496 := rfl
  have hi : double.infRung = 9218868437227405312 := rfl
  unfold Format.read
  simp only [hs, hb, hi]
  by_cases h1 : w % 9223372036854775808 < 4503599627370496
  · refine ⟨w / 9223372036854775808 % 2 == 1, w % 9223372036854775808, 0, ?_, ?_⟩
    · rw [if_pos h1]; simp
    · unfold key signed mag
      rw [if_pos h1]
      by_cases h2 : w / 9223372036854775808 % 2 = 1 <;> simp [h2]
  · refine ⟨w / 9223372036854775808 % 2 == 1, 4503599627370496 + w % 9223372036854775808 % 4503599627370496, w % 9223372036854775808 / 4503599627370496 - 1, ?_, ?_⟩
    · rw [if_neg h1, if_pos h]
    · unfold key signed mag
      rw [if_neg h1, Nat.shiftLeft_eq]
      by_cases h2 : w / 9223372036854775808 % 2 = 1 <;> simp [h2]
theorem signed_add (s : Bool) (m a b : Nat) : signed s m (a + b) = signed s m a * ((2 ^ b : Nat) : Int) := by
  unfold signed
  simp only [Nat.shiftLeft_eq, Nat.pow_add, ← Nat.mul_assoc]
  split
  · rw [Int.natCast_mul, Int.neg_mul]
  · rw [Int.natCast_mul]
theorem order_fin (x y : Nat) (hx : x % 9223372036854775808 < 9218868437227405312) (hy : y % 9223372036854775808 < 9218868437227405312) : double.order x y = some (compare (key x) (key y)) := by
  obtain ⟨s, m, a, e1, k1⟩ := read_fin x hx
  obtain ⟨t, n, b, e2, k2⟩ := read_fin y hy
  unfold Format.order
  rw [e1, e2]
  simp only [Datum.order]
  have hm : min (double.leastPlace + (a : Int)) (double.leastPlace + (b : Int)) = double.leastPlace + ((min a b : Nat) : Int) := by omega
  rw [hm]
  have ha : (double.leastPlace + (a : Int) - (double.leastPlace + ((min a b : Nat) : Int))).toNat = a - min a b := by omega
  have hb : (double.leastPlace + (b : Int) - (double.leastPlace + ((min a b : Nat) : Int))).toNat = b - min a b := by omega
  rw [ha, hb, k1, k2]
  have h1 := signed_add s m (a - min a b) (min a b)
  have h2 := signed_add t n (b - min a b) (min a b)
  rw [show a - min a b + min a b = a by omega] at h1
  rw [show b - min a b + min a b = b by omega] at h2
  rw [h1, h2]
  have hp : (0 : Int) < ((2 ^ min a b : Nat) : Int) := by have := Nat.two_pow_pos (min a b); omega
  generalize ((2 ^ min a b : Nat) : Int) = p at hp ⊢
  generalize signed s m (a - min a b) = u
  generalize signed t n (b - min a b) = v
  congr 1
  simp only [compare, compareOfLessAndEq]
  by_cases hl : u < v
  · rw [if_pos hl, if_pos (Int.mul_lt_mul_of_pos_right hl hp)]
  · rw [if_neg hl, if_neg (fun h => hl (Int.lt_of_mul_lt_mul_right h (Int.le_of_lt hp)))]
    by_cases he : u = v
    · rw [if_pos he, if_pos (by rw [he])]
    · rw [if_neg he, if_neg (fun h => he (Int.eq_of_mul_eq_mul_right (by omega) h))]
theorem eq_fin (x y : Nat) (hx : x % 9223372036854775808 < 9218868437227405312) (hy : y % 9223372036854775808 < 9218868437227405312) : (double.order x y == some .eq) = decide (key x = key y) := by
  rw [order_fin x y hx hy]
  simp only [compare, compareOfLessAndEq]
  by_cases h : key x < key y
  · simp [h]; omega
  · by_cases e : key x = key y <;> simp [h, e]
end Go.Proofs.YtdigejpgjnhclaaDoor.MReal
