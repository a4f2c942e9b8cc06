/- Plain laws of CRC-32C over bit vectors: each step is linear, and nothing but nought is stepped to nought. No program in sight. -/
import GoSem.Claims
import Derived.Laws.BitsLemmas
namespace Go.Proofs.Ytgkfmaiepjjgkaa.MathCrc
open Go

def poly : BitVec 32 := 2197175160#32
def step (x : BitVec 32) : BitVec 32 := (x >>> 1) ^^^ (if x.getLsbD 0 then poly else 0#32)
def iter : Nat → BitVec 32 → BitVec 32
  | 0, x => x
  | n + 1, x => iter n (step x)
def eat (c : BitVec 32) (x : Int) : BitVec 32 := iter 8 (c ^^^ BitVec.ofInt 32 x)
def run (c : BitVec 32) (l : List Int) : BitVec 32 := l.foldl eat c
def crc (l : List Int) : Int := ((4294967295#32 ^^^ run 4294967295#32 l).toNat : Int)

theorem xor_swap (a b c : BitVec 32) : a ^^^ (b ^^^ c) = b ^^^ (a ^^^ c) := by rw [← BitVec.xor_assoc, BitVec.xor_comm a b, BitVec.xor_assoc]
theorem xor_back (a b : BitVec 32) : a ^^^ (a ^^^ b) = b := by rw [← BitVec.xor_assoc, BitVec.xor_self, BitVec.zero_xor]
theorem xor6 (p q s x y z : BitVec 32) : (p ^^^ q ^^^ s) ^^^ (x ^^^ y ^^^ z) = (p ^^^ x) ^^^ (q ^^^ y) ^^^ (s ^^^ z) := by
  apply BitVec.eq_of_getLsbD_eq
  intro i _
  simp only [BitVec.getLsbD_xor]
  cases p.getLsbD i <;> cases q.getLsbD i <;> cases s.getLsbD i <;> cases x.getLsbD i <;> cases y.getLsbD i <;> cases z.getLsbD i <;> rfl
theorem step_xor (x y : BitVec 32) : step (x ^^^ y) = step x ^^^ step y := by
  unfold step
  rw [BitVec.ushiftRight_xor_distrib, BitVec.getLsbD_xor]
  have e : ∀ a b p : BitVec 32, (a ^^^ p) ^^^ (b ^^^ p) = a ^^^ b := fun a b p => by rw [BitVec.xor_assoc, xor_swap p b p, BitVec.xor_self, BitVec.xor_zero]
  cases x.getLsbD 0 <;> cases y.getLsbD 0
  · simp
  · simp [BitVec.xor_assoc]
  · simp only [Bool.xor_false, if_true, Bool.false_eq_true, if_false, BitVec.xor_zero]
    rw [BitVec.xor_assoc, BitVec.xor_assoc, BitVec.xor_comm poly]
  · simp only [Bool.xor_self, Bool.false_eq_true, if_false, if_true, BitVec.xor_zero]
    exact (e _ _ _).symm
theorem step_zero : step 0#32 = 0#32 := by decide
theorem step_ne {x : BitVec 32} (h : step x = 0#32) : x = 0#32 := by
  unfold step at h
  have h31 : (x >>> 1 ^^^ (if x.getLsbD 0 then poly else 0#32)).getLsbD 31 = false := by rw [h]; simp
  rw [BitVec.getLsbD_xor, BitVec.getLsbD_ushiftRight, BitVec.getLsbD_of_ge x (1 + 31) (by omega)] at h31
  cases h0 : x.getLsbD 0 with
  | true => rw [h0] at h31; exact absurd h31 (by decide)
  | false =>
    rw [h0] at h
    simp at h
    apply BitVec.eq_of_getLsbD_eq
    intro i hi
    rw [BitVec.getLsbD_zero]
    cases i with
    | zero => exact h0
    | succ i =>
      have := congrArg (fun z => z.getLsbD i) h
      simp only [BitVec.getLsbD_ushiftRight, BitVec.getLsbD_zero] at this
      rw [Nat.add_comm]
      exact this
theorem iter_xor (n : Nat) : ∀ x y : BitVec 32, iter n (x ^^^ y) = iter n x ^^^ iter n y := by
  induction n with
  | zero => intro x y; rfl
  | succ n ih => intro x y; rw [iter, step_xor, ih]; rfl
theorem iter_zero (n : Nat) : iter n 0#32 = 0#32 := by
  induction n with
  | zero => rfl
  | succ n ih => rw [iter, step_zero, ih]
theorem iter_ne (n : Nat) : ∀ {x : BitVec 32}, iter n x = 0#32 → x = 0#32 := by
  induction n with
  | zero => intro x h; exact h
  | succ n ih => intro x h; exact step_ne (ih h)
theorem iter_add (m n : Nat) : ∀ x : BitVec 32, iter (m + n) x = iter n (iter m x) := by
  induction m with
  | zero => intro x; rw [Nat.zero_add]; rfl
  | succ m ih => intro x; rw [Nat.succ_add]; exact ih _
/-- What has eight noughts behind is shifted. -/
theorem step_shl (x : BitVec 32) (h : x.getLsbD 31 = false) : step (x <<< 1) = x := by
  unfold step
  have h0 : (x <<< 1).getLsbD 0 = false := by simp
  rw [h0]
  apply BitVec.eq_of_getLsbD_eq
  intro i hi
  simp only [Bool.false_eq_true, if_false, BitVec.xor_zero, BitVec.getLsbD_ushiftRight, BitVec.getLsbD_shiftLeft]
  by_cases hi31 : i = 31
  · subst hi31
    rw [h]
    simp
  · simp [show 1 + i < 32 by omega, show ¬ (1 + i < 1) by omega]

theorem eat_xor (c d : BitVec 32) (x y : Int) : eat (c ^^^ d) x ^^^ eat c y = iter 8 (d ^^^ (BitVec.ofInt 32 x ^^^ BitVec.ofInt 32 y)) := by
  unfold eat
  rw [← iter_xor]
  congr 1
  rw [BitVec.xor_comm c d, BitVec.xor_assoc, BitVec.xor_assoc]
  congr 1
  rw [xor_swap, xor_back]

theorem run_nil (c : BitVec 32) : run c [] = c := rfl
theorem run_cons (c : BitVec 32) (x : Int) (l : List Int) : run c (x :: l) = run (eat c x) l := rfl
theorem run_append (c : BitVec 32) (l m : List Int) : run c (l ++ m) = run (run c l) m := by unfold run; rw [List.foldl_append]

/-! ### the machine's words for it -/
theorem bits_xor32 (a b : BitVec 32) : bits .xor .u32 (a.toNat : Int) (b.toNat : Int) = ((a ^^^ b).toNat : Int) := by
  show IntKind.u32.wrap (((BitVec.ofInt 32 (a.toNat : Int) ^^^ BitVec.ofInt 32 (b.toNat : Int)).toNat : Nat) : Int) = _
  rw [BitVec.ofInt_natCast, BitVec.ofInt_natCast, BitVec.ofNat_toNat, BitVec.ofNat_toNat, BitVec.setWidth_eq, BitVec.setWidth_eq, IntKind.wrap_u32]
  have := (a ^^^ b).isLt
  omega
theorem bits_and1 (a : BitVec 32) : (bits .and .u32 (a.toNat : Int) 1 = 1) ↔ a.getLsbD 0 = true := by
  show (IntKind.u32.wrap (((BitVec.ofInt 32 (a.toNat : Int) &&& 1#32).toNat : Nat) : Int) = 1) ↔ _
  rw [BitVec.ofInt_natCast, BitVec.ofNat_toNat, BitVec.setWidth_eq, IntKind.wrap_u32]
  have h1 : (a &&& 1#32).toNat = a.toNat % 2 := by
    rw [BitVec.toNat_and]
    show a.toNat &&& 1 = _
    rw [Nat.and_one_is_mod]
  rw [h1]
  have h2 : a.getLsbD 0 = decide (a.toNat % 2 = 1) := by
    rw [BitVec.getLsbD, Nat.testBit_zero]
  rw [h2, decide_eq_true_iff]
  omega
theorem div2 (a : BitVec 32) : (a.toNat : Int) / (2 : Int) = ((a >>> 1).toNat : Int) := by
  rw [BitVec.toNat_ushiftRight, Nat.shiftRight_eq_div_pow]
  exact (Int.natCast_ediv a.toNat 2).symm
theorem step_true (a : BitVec 32) (h : a.getLsbD 0 = true) : bits .xor .u32 ((a.toNat : Int) / (2 : Int)) 2197175160 = ((step a).toNat : Int) := by
  have e : (2197175160 : Int) = (poly.toNat : Int) := rfl
  rw [div2 a, e, bits_xor32]
  unfold step
  rw [h]; rfl
theorem step_false (a : BitVec 32) (h : a.getLsbD 0 = false) : (a.toNat : Int) / (2 : Int) = ((step a).toNat : Int) := by
  rw [div2 a]
  unfold step
  rw [h]; simp
theorem byte_toNat (x : Int) (hx : 0 ≤ x ∧ x < 256) : ((BitVec.ofInt 32 x).toNat : Int) = x := by
  rw [BitVec.toNat_ofInt]
  omega
end Go.Proofs.Ytgkfmaiepjjgkaa.MathCrc
