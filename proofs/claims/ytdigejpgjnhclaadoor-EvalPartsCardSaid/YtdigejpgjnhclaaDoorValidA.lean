/- Texts of two that are valid are valid, and have as many runes as both. Conditions: none. -/
import Derived.Test.YtdigejpgjnhclaaDoorRunes
import Derived.Lib.RuneCount
namespace Go.Proofs.YtdigejpgjnhclaaDoor.Vm
open Go Go.RowKit Go.Lib
set_option linter.unusedVariables false
set_option linter.unusedSimpArgs false
theorem decodeN_ext {n n' b0 b1 b2 b3 c1 c2 c3 : Nat} (hn : n ≤ n') (h1 : 1 < n → c1 = b1) (h2 : 2 < n → c2 = b2) (h3 : 3 < n → c3 = b3) (h : decodeN n b0 b1 b2 b3 ≠ (65533, 1)) : decodeN n' b0 c1 c2 c3 = decodeN n b0 b1 b2 b3 := by
  unfold decodeN at h ⊢
  by_cases k1 : b0 < 128
  · rw [if_pos k1, if_pos k1]
  rw [if_neg k1] at h ⊢
  rw [if_neg k1]
  by_cases k2 : b0 / 32 = 6 ∧ (1 < n ∧ b1 / 64 = 2)
  · have e1 := h1 k2.2.1
    subst e1
    rw [if_pos k2, if_pos ⟨k2.1, by omega, k2.2.2⟩]
  rw [if_neg k2] at h ⊢
  by_cases k3 : b0 / 16 = 14 ∧ (1 < n ∧ b1 / 64 = 2) ∧ (2 < n ∧ b2 / 64 = 2)
  · have e1 := h1 k3.2.1.1
    have e2 := h2 k3.2.2.1
    subst e1
    subst e2
    rw [if_pos k3, if_neg (by omega), if_pos ⟨k3.1, ⟨by omega, k3.2.1.2⟩, by omega, k3.2.2.2⟩]
  rw [if_neg k3] at h ⊢
  by_cases k4 : b0 / 8 = 30 ∧ (1 < n ∧ b1 / 64 = 2) ∧ (2 < n ∧ b2 / 64 = 2) ∧ (3 < n ∧ b3 / 64 = 2)
  · have e1 := h1 k4.2.1.1
    have e2 := h2 k4.2.2.1.1
    have e3 := h3 k4.2.2.2.1
    subst e1
    subst e2
    subst e3
    rw [if_pos k4, if_neg (by omega), if_neg (by omega), if_pos ⟨k4.1, ⟨by omega, k4.2.1.2⟩, ⟨by omega, k4.2.2.1.2⟩, by omega, k4.2.2.2.2⟩]
  rw [if_neg k4] at h
  exact absurd rfl h
theorem decodeL_app {a t : List UInt8} (ha : a ≠ []) (h : ¬ ((decodeL a).1 = 65533 ∧ (decodeL a).2 = 1)) : decodeL (a ++ t) = decodeL a := by
  have h' : decodeL a ≠ (65533, 1) := fun e => h (by rw [e]; exact ⟨rfl, rfl⟩)
  rw [decodeL_N] at h' ⊢
  rw [decodeL_N a]
  have hg : ∀ i, i < a.length → (a ++ t).getD i 0 = a.getD i 0 := fun i hi => by
    simp [List.getD_eq_getElem?_getD, List.getElem?_append_left hi]
  have hpos : 0 < a.length := List.length_pos_iff.2 ha
  rw [hg 0 hpos]
  exact decodeN_ext (by simp) (fun h => by rw [hg 1 h]) (fun h => by rw [hg 2 h]) (fun h => by rw [hg 3 h]) h'
theorem validD_app : ∀ (k : Nat) (a t : List UInt8), a.length ≤ k → validD a = true → validD (a ++ t) = validD t
  | 0, a, t, hk, h => by
    have e : a = [] := List.eq_nil_of_length_eq_zero (by omega)
    rw [e, List.nil_append]
  | k + 1, a, t, hk, h => by
    by_cases ha : a = []
    · subst ha; rfl
    · have hpos : 0 < a.length := List.length_pos_iff.2 ha
      rw [validD_step a ha] at h
      by_cases he : (decodeL a).1 = 65533 ∧ (decodeL a).2 = 1
      · rw [if_pos he] at h; cases h
      · rw [if_neg he] at h
        have hw := decodeL_width a
        have hl := decodeL_le a ha
        rw [validD_step (a ++ t) (by simp [ha]), decodeL_app ha he, if_neg he, List.drop_append_of_le_length hl]
        exact validD_app k (a.drop (decodeL a).2) t (by rw [List.length_drop]; omega) h
theorem valid_append {s t : ByteArray} (hs : validD s.data.toList = true) (ht : validD t.data.toList = true) : validD (s ++ t).data.toList = true := by
  have e : (s ++ t).data.toList = s.data.toList ++ t.data.toList := by simp
  rw [e, validD_app _ _ _ (Nat.le_refl _) hs]
  exact ht
end Go.Proofs.YtdigejpgjnhclaaDoor.Vm
