/- IncludeRight: its walk. Conditions: the table of steps has 64 words. -/
import Derived.Test.YthpenjbpaegpgaaDoorRightE
import Derived.Test.YthpenjbpaegpgaaDoorRightM
namespace Go.Proofs.YthpenjbpaegpgaaDoor.Vm
open Go Go.RowKit
set_option linter.unusedVariables false
set_option linter.unusedSimpArgs false
attribute [local irreducible] Ops Dr Run digP rootP pathP entE
variable {g : Nat → Option (List PV)}
theorem pow_mono {a b : Nat} (h : (2 : Int) ^ a < 2 ^ (b + 1)) : (2 : Int) ^ a ≤ 2 ^ b := by
  have h1 : ((2 ^ a : Nat) : Int) < ((2 ^ (b + 1) : Nat) : Int) := by simpa using h
  have h2 : a < b + 1 := (Nat.pow_lt_pow_iff_right (by decide)).1 (Int.ofNat_lt.1 h1)
  have h3 : 2 ^ a ≤ 2 ^ b := Nat.pow_le_pow_right (by decide) (by omega)
  have h4 : ((2 ^ a : Nat) : Int) ≤ ((2 ^ b : Nat) : Int) := Int.ofNat_le.2 h3
  simpa using h4
/-- A path is as long as the halvings. -/
theorem path_few {D : Int → List (List Int) → List Int} {Hf : Int → Int} (hH : Halves g Hf) : ∀ (f : Nat) (m : Nat) (ps : List (List Int)) (i : Int), ps.length ≤ f → 1 ≤ ps.length → ps.length ≤ 64 → (ps.length : Int) ≤ 2 ^ m → (pathP D Hf f ps i).length ≤ m
  | 0, m, ps, i, h, h1, h2, h3 => by omega
  | f + 1, m, ps, i, h, h1, h2, h3 => by
    rw [pathP]
    split
    · simp
    · cases m with
      | zero => simp at h3; omega
      | succ m =>
      obtain ⟨⟨j, kj⟩, k1, k2, k3, _⟩ := hH ps.length (by omega) (by omega)
      have kk : Hf ps.length ≤ 2 ^ m := by rw [kj]; exact pow_mono (by rw [← kj]; omega)
      generalize Hf ps.length = k at *
      have l1 : (ps.take k.toNat).length = k.toNat := by rw [List.length_take]; omega
      have l2 : (ps.drop k.toNat).length = ps.length - k.toNat := by rw [List.length_drop]
      split
      · have := path_few (D := D) hH f m (ps.take k.toNat) i (by omega) (by omega) (by omega) (by omega)
        simp only [List.length_append, List.length_cons, List.length_nil]; omega
      · have := path_few (D := D) hH f m (ps.drop k.toNat) (i - k) (by omega) (by omega) (by omega) (by omega)
        simp only [List.length_append, List.length_cons, List.length_nil]; omega
theorem path_pow {D : Int → List (List Int) → List Int} {Hf : Int → Int} (hH : Halves g Hf) {f : Nat} {ps : List (List Int)} {i : Int} (h : ps.length ≤ f) (h1 : 2 ≤ ps.length) (h2 : ps.length ≤ 64) {n : Nat} (hn : (pathP D Hf f ps i).length = n + 1) : (2 : Int) ^ n < ps.length := by
  obtain ⟨⟨j, kj⟩, k1, k2, k3, _⟩ := hH ps.length (by omega) (by omega)
  have := path_few (D := D) hH f (j + 1) ps i h (by omega) h2 (by rw [Int.pow_succ, ← kj]; omega)
  have hle : (2 : Int) ^ n ≤ 2 ^ j := by
    have h4 : ((2 ^ n : Nat) : Int) ≤ ((2 ^ j : Nat) : Int) := Int.ofNat_le.2 (Nat.pow_le_pow_right (by decide) (by omega))
    simpa using h4
  omega
theorem root_pos {T : List Int → List Int → List Int} {mode : Int} {Hf : Int → Int} (f : Nat) (ps : List (List Int)) : 0 < (rootP (digP T mode) Hf f ps).length := by
  have hd : ∀ tag q, 0 < (digP T mode tag q).length := fun tag q => by
    unfold digP
    split
    · have := frameL_len tag q; have := tot_nn q; omega
    · rw [sumP_len]; decide
  cases f with
  | zero => rw [rootP]; exact hd _ _
  | succ f => rw [rootP]; split <;> (try split) <;> exact hd _ _
end Go.Proofs.YthpenjbpaegpgaaDoor.Vm
