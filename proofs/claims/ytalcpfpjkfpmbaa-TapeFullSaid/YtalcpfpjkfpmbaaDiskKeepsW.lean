/- DiskKeeps: its walk. Conditions: none. -/
import Derived.Test.YtalcpfpjkfpmbaaDiskE
namespace Go.Proofs.Ytalcpfpjkfpmbaa.Vm
open Go Go.RowKit
set_option linter.unusedVariables false
set_option linter.unusedSimpArgs false
attribute [local irreducible] Ops Dr Run
variable {g : Nat → Option (List PV)}
/-- What a sector has, after so many writes of which some last. -/
def rdP (P : Nat → Bool) (Ls : List (List Int)) (i : Nat) (Ws : List Pt) : Nat → List Int
  | 0 => Ls.getD i []
  | j + 1 => match Ws[j]? with
    | some w => if P j = true then (if w.pl = i then w.s else rdP P Ls i Ws j) else rdP P Ls i Ws j
    | none => rdP P Ls i Ws j
theorem rdP_all (Ls : List (List Int)) (i : Nat) (Ws : List Pt) : ∀ j, rdP (fun _ => true) Ls i Ws j = rdS Ls i Ws j
  | 0 => rfl
  | j + 1 => by
    rw [rdP, rdS]
    cases hw : Ws[j]? with
    | some w => dsimp only; rw [if_pos rfl, rdP_all Ls i Ws j]
    | none => exact rdP_all Ls i Ws j
theorem fl_get {Ls : List (List Int)} {Ws : List Pt} (h : DOk Ls Ws) (P : Nat → Bool) {i : Nat} (hi : i < Ls.length) : ∀ j, (fl P Ls Ws j).getD i [] = rdP P Ls i Ws j
  | 0 => rfl
  | j + 1 => by
    have ih := fl_get h P hi j
    rw [fl, rdP]
    cases hw : Ws[j]? with
    | none => exact ih
    | some w =>
      dsimp only
      obtain ⟨w1, w2, _⟩ := h.w w (List.mem_of_getElem? hw)
      by_cases hP : P j = true
      · rw [if_pos hP, if_pos hP]
        have hl := fl_len P (Ls := Ls) (Ws := Ws) j
        rw [List.getD_eq_getElem?_getD, List.getElem?_set]
        by_cases hp : w.pl.toNat = i
        · rw [if_pos hp, if_pos (by omega), if_pos (by omega)]; rfl
        · rw [if_neg hp, if_neg (by omega), ← List.getD_eq_getElem?_getD]; exact ih
      · rw [if_neg hP, if_neg hP]; exact ih
/-- It is what was there, or what was written there. -/
def thr (X L0 : List Int) (i : Nat) (Ws : List Pt) : Nat → Bool
  | 0 => X == L0
  | j + 1 => match Ws[j]? with
    | some w => thr X L0 i Ws j || (decide (w.pl = i) && (w.s == X))
    | none => thr X L0 i Ws j
theorem thr_yes (P : Nat → Bool) (Ls : List (List Int)) (i : Nat) (Ws : List Pt) : ∀ (j : Nat) (X : List Int), rdP P Ls i Ws j = X → thr X (Ls.getD i []) i Ws j = true
  | 0, X, h => by
    rw [rdP] at h
    rw [thr, h]
    exact beq_self_eq_true _
  | j + 1, X, h => by
    have ih := thr_yes P Ls i Ws j X
    rw [rdP] at h
    rw [thr]
    cases hw : Ws[j]? with
    | none =>
      rw [hw] at h
      exact ih h
    | some w =>
      rw [hw] at h
      dsimp only at h ⊢
      by_cases hP : P j = true
      · rw [if_pos hP] at h
        by_cases hpl : w.pl = (i : Int)
        · rw [if_pos hpl] at h
          rw [decide_eq_true hpl, h, beq_self_eq_true]
          simp
        · rw [if_neg hpl] at h
          rw [ih h]; rfl
      · rw [if_neg hP] at h
        rw [ih h]; rfl
end Go.Proofs.Ytalcpfpjkfpmbaa.Vm
