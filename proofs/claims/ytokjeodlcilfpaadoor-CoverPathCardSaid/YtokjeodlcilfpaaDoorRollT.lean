/- Rolls: the root of a list. Conditions: the table of steps has 64 words. -/
import Derived.Test.YtokjeodlcilfpaaDoorRollR
namespace Go.Proofs.YtokjeodlcilfpaaDoor.Vm
open Go Go.RowKit
set_option linter.unusedVariables false
set_option linter.unusedSimpArgs false
attribute [local irreducible] Ops Dr Run digP
variable {g : Nat → Option (List PV)}
/-- The root of a list, by what is digested and where it is parted. -/
def rootP (D : Int → List (List Int) → List Int) (Hf : Int → Int) : Nat → List (List Int) → List Int
  | 0, ps => D 4 []
  | f + 1, ps => if ps.length = 0 then D 4 [] else if ps.length = 1 then D 5 (ps.take 1) else D 6 [rootP D Hf f (ps.take (Hf ps.length).toNat), rootP D Hf f (ps.drop (Hf ps.length).toNat)]
theorem digP_len {T : List Int → List Int → List Int} {mode tag : Int} {ps : List (List Int)} {m : Int} (h1 : 32 ≤ m) (h2 : 2 + tot ps ≤ m) : ((digP T mode tag ps).length : Int) ≤ m := by
  unfold digP
  split
  · rw [frameL_len]; exact h2
  · rw [sumP_len]; exact h1
def Entries (ps : List (List Int)) : Prop := ps.length ≤ 64 ∧ ∀ p ∈ ps, p.length ≤ 100
theorem Entries.take {ps : List (List Int)} (h : Entries ps) (k : Nat) : Entries (ps.take k) := ⟨by have := h.1; rw [List.length_take]; omega, fun p hp => h.2 p (List.mem_of_mem_take hp)⟩
theorem Entries.drop {ps : List (List Int)} (h : Entries ps) (k : Nat) : Entries (ps.drop k) := ⟨by have := h.1; rw [List.length_drop]; omega, fun p hp => h.2 p (List.mem_of_mem_drop hp)⟩
theorem tot_one {ps : List (List Int)} (h : Entries ps) : tot (ps.take 1) ≤ 104 := by
  cases ps with
  | nil => simp [tot]
  | cons p ps =>
    have := h.2 p (by simp)
    simp [tot]; omega
end Go.Proofs.YtokjeodlcilfpaaDoor.Vm
