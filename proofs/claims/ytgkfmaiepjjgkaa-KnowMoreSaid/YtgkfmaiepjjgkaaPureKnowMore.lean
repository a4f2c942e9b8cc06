/- KnowMore: what is sure stays sure when more is known: for every three whole numbers the law's pure form tells true. Conditions: none beyond the arguments' own kinds. -/
import Derived.Test.YtgkfmaiepjjgkaaPKnowMorex1
namespace Go.Proofs.Ytgkfmaiepjjgkaa.Pure
open Go.RowKit Go.Proofs.Ytgkfmaiepjjgkaa.PKnowMore Go.Proofs.YtgkfmaiepjjgkaaW.PrintWords Go.Proofs.YtgkfmaiepjjgkaaW.PrintLast

theorem picked_emod (a m : Int) (hm : 0 < m) (hm2 : m < 9223372036854775808) : chirographkeep_picked.f a m = some (a % m) := by
  unfold chirographkeep_picked.f
  rw [if_neg (by omega)]
  have h0 := Int.emod_nonneg a (show m ≠ 0 by omega)
  have h1 := Int.emod_lt_of_pos a hm
  have e : Int.tmod a m = a % m ∨ (Int.tmod a m = a % m - m ∧ 0 < a % m) := by
    rw [Int.tmod_eq_emod]
    split
    · left; omega
    · right
      have : ¬ m ∣ a := fun h => by simp_all
      have := Int.emod_pos_of_not_dvd this
      omega
  rcases e with e | ⟨e, hp⟩
  · rw [e, if_neg (by omega)]
  · rw [e, if_pos (by omega)]; unfold wrap64; congr 1; omega

theorem KnowMore : chirographkeep_KnowMore.Pure := by
  intro a b c _ _ _
  refine ⟨4, ?_⟩
  unfold chirographkeep_KnowMore.f
  rw [picked_emod a 3 (by decide) (by decide), picked_emod b 3 (by decide) (by decide), picked_emod c 3 (by decide) (by decide)]
  simp only [Option.bind_some]
  have cx : a % 3 = 0 ∨ a % 3 = 1 ∨ a % 3 = 2 := by omega
  have cy : b % 3 = 0 ∨ b % 3 = 1 ∨ b % 3 = 2 := by omega
  have cz : c % 3 = 0 ∨ c % 3 = 1 ∨ c % 3 = 2 := by omega
  generalize a % 3 = x at *
  generalize b % 3 = y at *
  generalize c % 3 = z at *
  rcases cx with rfl | rfl | rfl <;> rcases cy with rfl | rfl | rfl <;> rcases cz with rfl | rfl | rfl <;> decide +kernel

end Go.Proofs.Ytgkfmaiepjjgkaa.Pure
