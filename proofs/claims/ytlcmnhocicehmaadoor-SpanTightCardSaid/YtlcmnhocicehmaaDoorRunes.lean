/- Runes: bytes that are one rune, whatever follows them. Conditions: none. -/
import Derived.Laws.BitsAllLaws
import Derived.Lib.MapLaws
import Derived.Lib.ValidLaws
import Derived.Test.YtlcmnhocicehmaaDoorVmEnv
namespace Go.Proofs.YtlcmnhocicehmaaDoor.Vm
open Go Go.RowKit Go.Lib
set_option linter.unusedVariables false
set_option linter.unusedSimpArgs false
/-- A run of bytes that decodes as one rune, whatever follows. -/
def Whole (q : List UInt8) : Prop := q ≠ [] ∧ ∀ t : List UInt8, (decodeL (q ++ t)).2 = q.length ∧ ¬ ((decodeL (q ++ t)).1 = 65533 ∧ (decodeL (q ++ t)).2 = 1)
theorem dn1 (n c x y z : Nat) (h : c < 128) : decodeN n c x y z = (c, 1) := by unfold decodeN; rw [if_pos h]
theorem dn2 (n c x y : Nat) (h0 : 128 ≤ c) (h1 : c < 2048) : decodeN (n + 2) (192 + c / 64) (128 + c % 64) x y = (c, 2) := by
  unfold decodeN
  have e : (192 + c / 64) % 32 * 64 + (128 + c % 64) % 64 = c := by omega
  rw [if_neg (by omega), if_pos (by omega), e, if_pos (by omega)]
theorem dn3 (n c x : Nat) (h0 : 2048 ≤ c) (h1 : c < 65536) (hv : c < 55296 ∨ 57344 ≤ c) : decodeN (n + 3) (224 + c / 4096) (128 + c / 64 % 64) (128 + c % 64) x = (c, 3) := by
  unfold decodeN
  have e : (224 + c / 4096) % 16 * 4096 + (128 + c / 64 % 64) % 64 * 64 + (128 + c % 64) % 64 = c := by omega
  rw [if_neg (by omega), if_neg (by omega), if_pos (by omega), e, if_pos (by omega)]
theorem dn4 (n c : Nat) (h0 : 65536 ≤ c) (h1 : c ≤ 1114111) : decodeN (n + 4) (240 + c / 262144) (128 + c / 4096 % 64) (128 + c / 64 % 64) (128 + c % 64) = (c, 4) := by
  unfold decodeN
  have e : (240 + c / 262144) % 8 * 262144 + (128 + c / 4096 % 64) % 64 * 4096 + (128 + c / 64 % 64) % 64 * 64 + (128 + c % 64) % 64 = c := by omega
  rw [if_neg (by omega), if_neg (by omega), if_neg (by omega), if_pos (by omega), e, if_pos (by omega)]
theorem u8n (n : Nat) (h : n < 256) : (UInt8.ofNat n).toNat = n := by simp; omega
theorem enc_whole (r : Int) : Whole (Utf8.encode r).data.toList := by
  have hc : ∃ c : Nat, (if Utf8.valid r then r.toNat else Utf8.runeError) = c ∧ (c < 55296 ∨ (57344 ≤ c ∧ c ≤ 1114111)) := by
    refine ⟨_, rfl, ?_⟩
    by_cases h : Utf8.valid r = true
    · rw [if_pos h]
      simp [Utf8.valid] at h
      omega
    · rw [if_neg h]
      unfold Utf8.runeError
      omega
  obtain ⟨c, e, hv⟩ := hc
  unfold Utf8.encode
  rw [e]
  by_cases h1 : c < 128
  · simp only [h1, if_true]
    refine ⟨by simp, fun t => ?_⟩
    have hd : decodeL (([UInt8.ofNat c] : List UInt8) ++ t) = (c, 1) := by
      rw [decodeL_N]
      show decodeN _ (UInt8.ofNat c).toNat _ _ _ = _
      rw [u8n c (by omega)]
      exact dn1 _ _ _ _ _ h1
    show (decodeL (([UInt8.ofNat c] : List UInt8) ++ t)).2 = 1 ∧ _
    rw [hd]
    exact ⟨rfl, fun h => by have := h.1; simp at this; omega⟩
  · by_cases h2 : c < 2048
    · simp only [h1, h2, if_true, if_false]
      refine ⟨by simp, fun t => ?_⟩
      have hd : decodeL (([UInt8.ofNat (192 + c / 64), UInt8.ofNat (128 + c % 64)] : List UInt8) ++ t) = (c, 2) := by
        rw [decodeL_N]
        show decodeN (t.length + 2) (UInt8.ofNat (192 + c / 64)).toNat (UInt8.ofNat (128 + c % 64)).toNat _ _ = _
        rw [u8n _ (by omega), u8n _ (by omega)]
        exact dn2 _ _ _ _ (by omega) h2
      show (decodeL (([UInt8.ofNat (192 + c / 64), UInt8.ofNat (128 + c % 64)] : List UInt8) ++ t)).2 = 2 ∧ _
      rw [show (decodeL (({ data := #[UInt8.ofNat (192 + c / 64), UInt8.ofNat (128 + c % 64)] } : ByteArray).data.toList ++ t)) = (c, 2) from hd]
      exact ⟨rfl, fun h => by have := h.2; simp at this⟩
    · by_cases h3 : c < 65536
      · simp only [h1, h2, h3, if_true, if_false]
        refine ⟨by simp, fun t => ?_⟩
        have hd : decodeL (([UInt8.ofNat (224 + c / 4096), UInt8.ofNat (128 + c / 64 % 64), UInt8.ofNat (128 + c % 64)] : List UInt8) ++ t) = (c, 3) := by
          rw [decodeL_N]
          show decodeN (t.length + 3) (UInt8.ofNat (224 + c / 4096)).toNat (UInt8.ofNat (128 + c / 64 % 64)).toNat (UInt8.ofNat (128 + c % 64)).toNat _ = _
          rw [u8n _ (by omega), u8n _ (by omega), u8n _ (by omega)]
          exact dn3 _ _ _ (by omega) h3 (by omega)
        show (decodeL (([UInt8.ofNat (224 + c / 4096), UInt8.ofNat (128 + c / 64 % 64), UInt8.ofNat (128 + c % 64)] : List UInt8) ++ t)).2 = 3 ∧ _
        rw [show (decodeL (({ data := #[UInt8.ofNat (224 + c / 4096), UInt8.ofNat (128 + c / 64 % 64), UInt8.ofNat (128 + c % 64)] } : ByteArray).data.toList ++ t)) = (c, 3) from hd]
        exact ⟨rfl, fun h => by have := h.2; simp at this⟩
      · simp only [h1, h2, h3, if_false]
        refine ⟨by simp, fun t => ?_⟩
        have hd : decodeL (([UInt8.ofNat (240 + c / 262144), UInt8.ofNat (128 + c / 4096 % 64), UInt8.ofNat (128 + c / 64 % 64), UInt8.ofNat (128 + c % 64)] : List UInt8) ++ t) = (c, 4) := by
          rw [decodeL_N]
          show decodeN (t.length + 4) (UInt8.ofNat (240 + c / 262144)).toNat (UInt8.ofNat (128 + c / 4096 % 64)).toNat (UInt8.ofNat (128 + c / 64 % 64)).toNat (UInt8.ofNat (128 + c % 64)).toNat = _
          rw [u8n _ (by omega), u8n _ (by omega), u8n _ (by omega), u8n _ (by omega)]
          exact dn4 _ _ (by omega) (by omega)
        show (decodeL (([UInt8.ofNat (240 + c / 262144), UInt8.ofNat (128 + c / 4096 % 64), UInt8.ofNat (128 + c / 64 % 64), UInt8.ofNat (128 + c % 64)] : List UInt8) ++ t)).2 = 4 ∧ _
        rw [show (decodeL (({ data := #[UInt8.ofNat (240 + c / 262144), UInt8.ofNat (128 + c / 4096 % 64), UInt8.ofNat (128 + c / 64 % 64), UInt8.ofNat (128 + c % 64)] } : ByteArray).data.toList ++ t)) = (c, 4) from hd]
        exact ⟨rfl, fun h => by have := h.2; simp at this⟩
theorem whole_valid (q t : List UInt8) (h : Whole q) : validD (q ++ t) = validD t := by
  obtain ⟨hne, hq⟩ := h
  rw [validD_step (q ++ t) (by simp [hne]), if_neg (hq t).2, (hq t).1]
  simp
theorem wholes_valid : ∀ (us : List (List UInt8)), (∀ q ∈ us, Whole q) → validD us.flatten = true
  | [], _ => validD_nil
  | q :: us, h => by rw [List.flatten_cons, whole_valid q _ (h q (by simp))]; exact wholes_valid us (fun x hx => h x (by simp [hx]))
/-- A text of whole runes. -/
def Runes (t : ByteArray) : Prop := ∃ us : List (List UInt8), t.data.toList = us.flatten ∧ ∀ q ∈ us, Whole q
theorem Runes.nil : Runes ByteArray.empty := ⟨[], rfl, fun q hq => by simp at hq⟩
theorem Runes.add {t : ByteArray} (h : Runes t) (r : Int) : Runes (t ++ Utf8.encode r) := by
  obtain ⟨us, h1, h2⟩ := h
  refine ⟨us ++ [(Utf8.encode r).data.toList], ?_, fun q hq => ?_⟩
  · rw [ByteArray.data_append, Array.toList_append, h1]
    simp
  · rcases List.mem_append.1 hq with hq | hq
    · exact h2 q hq
    · rw [List.mem_singleton.1 hq]; exact enc_whole _
theorem Runes.valid {t : ByteArray} (h : Runes t) : validD t.data.toList = true := by
  obtain ⟨us, h1, h2⟩ := h
  rw [h1]
  exact wholes_valid us h2
end Go.Proofs.YtlcmnhocicehmaaDoor.Vm
