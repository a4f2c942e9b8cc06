/- SharesEven: workers have all things, each thing one of them, and none has two more than another: for every two whole numbers the law's pure form tells true (65 times 8 cases, by the kernel). Conditions: none beyond the arguments' own kinds. -/
import Derived.Test.YtgkfmaiepjjgkaaQSharesEvenx1
namespace Go.Proofs.Ytgkfmaiepjjgkaa.Pure
open Go.RowKit Go.Proofs.Ytgkfmaiepjjgkaa.QSharesEven Go.Proofs.YtgkfmaiepjjgkaaW.PrintWords Go.Proofs.YtgkfmaiepjjgkaaW.PrintLast

set_option linter.unusedVariables false
set_option linter.unusedSimpArgs false

theorem picked_emod (a m : Int) (hm : 0 < m) (hm2 : m < 9223372036854775808) : chirographkeep_picked.f a m = some (a % m) := by
  unfold chirographkeep_picked.f
  rw [if_neg (by omega)]
  have h0 := Int.emod_nonneg a (show m ≠ 0 by omega)
  have h1 := Int.emod_lt_of_pos a hm
  have e : Int.tmod a m = a % m ∨ (Int.tmod a m = a % m - m ∧ 0 < a % m) := by
    rw [Int.tmod_eq_emod]
    split
    · left; omega
    · right
      have : ¬ m ∣ a := fun h => by simp_all
      have := Int.emod_pos_of_not_dvd this
      omega
  rcases e with e | ⟨e, hp⟩
  · rw [e, if_neg (by omega)]
  · rw [e, if_pos (by omega)]; unfold wrap64; congr 1; omega

theorem shares_all : ∀ (x : Fin 65) (y : Fin 8), chirographkeep_SharesEven.f 20 (x.val : Int) (y.val : Int) = some true := by decide +kernel

theorem SharesEven : chirographkeep_SharesEven.Pure := by
  intro a b _ _
  refine ⟨20, ?_⟩
  have h := shares_all ⟨(a % 65).toNat, by omega⟩ ⟨(b % 8).toNat, by omega⟩
  have e1 : (((a % 65).toNat : Nat) : Int) = a % 65 := by omega
  have e2 : (((b % 8).toNat : Nat) : Int) = b % 8 := by omega
  simp only [e1, e2] at h
  unfold chirographkeep_SharesEven.f at h ⊢
  rw [picked_emod _ 65 (by decide) (by decide), picked_emod _ 8 (by decide) (by decide)] at h ⊢
  simp only [Int.emod_emod] at h
  exact h

end Go.Proofs.Ytgkfmaiepjjgkaa.Pure
