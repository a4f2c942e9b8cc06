/- Columns made of raw things, and the raw things that a heap gives. Conditions: none. -/
import Derived.Test.YtdigejpgjnhclaaDoorKindP
import Derived.Test.YtdigejpgjnhclaaDoorRightS
import Derived.Laws.Strings
namespace Go.Proofs.YtdigejpgjnhclaaDoor.Vm
open Go Go.RowKit Go.Lib
set_option linter.unusedVariables false
set_option linter.unusedSimpArgs false
def nmOf (n : Nat) : ByteArray := ⟨#[UInt8.ofNat n]⟩
theorem nmOf_ok {n : Nat} (h : 97 ≤ n) (h2 : n ≤ 122) : NameOk (nmOf n) := by
  refine ⟨by simp [nmOf, ByteArray.size], by simp [nmOf, ByteArray.size], fun c hc => ?_⟩
  simp only [nmOf, List.mem_singleton] at hc
  subst hc
  have : (UInt8.ofNat n).toNat = n % 256 := rfl
  omega
/-- The column that a raw thing makes, at its place. -/
def kolOf (i : Nat) (r : Rw) : Kol := ⟨nmOf (97 + i), 1 + r.kd % 4, decide (r.a % 2 = 0)⟩
def colsFrom (i : Nat) : List Rw → List Kol
  | [] => []
  | r :: rs => kolOf i r :: colsFrom (i + 1) rs
def kolK : Kol := ⟨nmOf 107, 2, false⟩
def colsP (rs : List Rw) : List Kol := kolK :: colsFrom 0 (rs.take 3)
theorem colsFrom_append (i : Nat) : ∀ (a b : List Rw), colsFrom i (a ++ b) = colsFrom i a ++ colsFrom (i + a.length) b
  | [], b => by simp [colsFrom]
  | r :: a, b => by
    simp only [List.cons_append, colsFrom, colsFrom_append (i + 1) a b, List.length_cons]
    rw [show i + 1 + a.length = i + (a.length + 1) by omega]
theorem colsFrom_len (i : Nat) : ∀ (a : List Rw), (colsFrom i a).length = a.length
  | [] => rfl
  | r :: a => by simp [colsFrom, colsFrom_len (i + 1) a]
/-- Columns that may be. -/
structure ColsOk (cs : List Kol) : Prop where
  len : cs.length ≤ 5
  ok : ∀ c ∈ cs, NameOk c.nm ∧ 1 ≤ c.kd ∧ c.kd ≤ 4
  ap : cs.Pairwise fun c d => (c.nm.toList == d.nm.toList) = false
theorem nm_ap (m n : Nat) (h : m < 256) (h2 : n < 256) (hne : m ≠ n) : ((nmOf m).toList == (nmOf n).toList) = false := by
  have e : ∀ k, (nmOf k).toList = [UInt8.ofNat k] := fun k => by
    have : (nmOf k).toList = (nmOf k).data.toList := ByteArray.toList_eq _
    rw [this]; rfl
  rw [e, e]
  simp only [beq_eq_false_iff_ne, ne_eq, List.cons.injEq, and_true]
  intro hk
  have : (UInt8.ofNat m).toNat = (UInt8.ofNat n).toNat := by rw [hk]
  have a1 : (UInt8.ofNat m).toNat = m % 256 := rfl
  have a2 : (UInt8.ofNat n).toNat = n % 256 := rfl
  omega
theorem colsP_ok (rs : List Rw) : ColsOk (colsP rs) := by
  have hk : ∀ z : Int, 1 ≤ 1 + z % 4 ∧ 1 + z % 4 ≤ 4 := fun z => by omega
  unfold colsP
  generalize hR : rs.take 3 = R
  have hl : R.length ≤ 3 := by rw [← hR, List.length_take]; omega
  refine ⟨by simp [colsFrom_len]; omega, ?_, ?_⟩
  · intro c hc
    have : ∀ (i : Nat) (R : List Rw), i + R.length ≤ 3 → ∀ c ∈ colsFrom i R, NameOk c.nm ∧ 1 ≤ c.kd ∧ c.kd ≤ 4 := by
      intro i R
      induction R generalizing i with
      | nil => intro _ c hc; simp [colsFrom] at hc
      | cons r R ih =>
        intro h c hc
        simp only [colsFrom, List.mem_cons] at hc
        simp only [List.length_cons] at h
        rcases hc with rfl | hc
        · exact ⟨nmOf_ok (by omega) (by omega), hk _⟩
        · exact ih (i + 1) (by omega) c hc
    rcases List.mem_cons.1 hc with rfl | hc
    · exact ⟨nmOf_ok (by omega) (by omega), by decide, by decide⟩
    · exact this 0 R (by omega) c hc
  · have hnm : ∀ (i : Nat) (R : List Rw), ∀ c ∈ colsFrom i R, ∃ j, i ≤ j ∧ j < i + R.length ∧ c.nm = nmOf (97 + j) := by
      intro i R
      induction R generalizing i with
      | nil => intro c hc; simp [colsFrom] at hc
      | cons r R ih =>
        intro c hc
        simp only [colsFrom, List.mem_cons] at hc
        rcases hc with rfl | hc
        · exact ⟨i, by omega, by simp, rfl⟩
        · obtain ⟨j, h1, h2, h3⟩ := ih (i + 1) c hc
          exact ⟨j, by omega, by simp only [List.length_cons]; omega, h3⟩
    have hp : ∀ (i : Nat) (R : List Rw), i + R.length ≤ 3 → (colsFrom i R).Pairwise fun c d => (c.nm.toList == d.nm.toList) = false := by
      intro i R
      induction R generalizing i with
      | nil => intro _; exact .nil
      | cons r R ih =>
        intro h
        simp only [List.length_cons] at h
        refine .cons (fun d hd => ?_) (ih (i + 1) (by omega))
        obtain ⟨j, h1, h2, h3⟩ := hnm (i + 1) R d hd
        rw [h3]
        exact nm_ap _ _ (by omega) (by omega) (by omega)
    refine .cons (fun d hd => ?_) (hp 0 R (by omega))
    obtain ⟨j, h1, h2, h3⟩ := hnm 0 R d hd
    rw [h3]
    exact nm_ap _ _ (by omega) (by omega) (by omega)
theorem findC_mem {cs : List Kol} (h : cs.Pairwise fun c d => (c.nm.toList == d.nm.toList) = false) : ∀ c ∈ cs, findC cs c.nm = some c := by
  induction cs with
  | nil => intro c hc; simp at hc
  | cons d cs ih =>
    obtain ⟨h1, h2⟩ := List.pairwise_cons.1 h
    intro c hc
    unfold findC at *
    rcases List.mem_cons.1 hc with rfl | hc
    · simp
    · rw [List.find?_cons_of_neg (by simp [h1 c hc])]
      exact ih h2 c hc
/-- The raw thing that a heap gives next. -/
def nxt (rs : List Rw) (at' : Int) : Rw :=
  match rs[(at' % (rs.length : Int)).toNat]? with
  | some r => ⟨r.kd, IntKind.i64.wrap (r.a + (at' + 1) / (rs.length : Int)), r.b, r.s⟩
  | none => ⟨0, at' + 1, at' + 1, noS⟩
end Go.Proofs.YtdigejpgjnhclaaDoor.Vm
