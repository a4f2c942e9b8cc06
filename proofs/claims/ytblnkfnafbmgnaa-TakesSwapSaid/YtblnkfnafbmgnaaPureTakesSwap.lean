/- TakesSwap: it does not matter which of two grants is taken first: for every list of raw things and every two whole numbers the law's pure form tells true. Conditions: none beyond the arguments' own kinds and sizes. -/
import Derived.Test.YtblnkfnafbmgnaaQTakesSwapx11
namespace Go.Proofs.Ytblnkfnafbmgnaa.Pure
open Go.RowKit Go.Proofs.Ytblnkfnafbmgnaa.QTakesSwap Go.Proofs.Ytblnkfnafbmgnaa.VPrintWords Go.Proofs.Ytblnkfnafbmgnaa.VPrintLast

set_option linter.unusedVariables false
set_option linter.unusedSimpArgs false

/-! ### what stands by itself: the grants that somebody stands behind, up to the owner -/
abbrev G := S28
def ow (o : Int) : Int := wrap64 (Int.tdiv o 4)
inductive Supp (l : List G) : G → Prop
  | base (x : G) : x.f0 = ow x.f2 → Supp l x
  | step (x y : G) : y ∈ l → Supp l y → y.f4 = true → y.f1 = x.f0 → y.f2 = x.f2 → y.f3 = x.f3 → Supp l x
open Classical in
noncomputable def held (l : List G) : List G := l.filter fun x => decide (Supp l x)
theorem mem_held {l : List G} {x : G} : x ∈ held l ↔ x ∈ l ∧ Supp l x := by unfold held; simp
theorem w64 (x : Int) (h : -9223372036854775808 ≤ x ∧ x < 9223372036854775808) : wrap64 x = x := by unfold wrap64; omega
theorem rdG_at {l : List G} {i : Nat} (h : i < l.length) : rd_T28 l (i : Int) = l[i] := by
  unfold rd_T28
  simp [List.getD_eq_getElem?_getD, List.getElem?_eq_getElem h]
theorem rd_at {l : List Int} {i : Nat} (h : i < l.length) : rd l (i : Int) = l[i] := by
  unfold rd
  simp [List.getD_eq_getElem?_getD, List.getElem?_eq_getElem h]
/-- How many are not marked. -/
def zeros (g : List Int) : Nat := (g.filter fun x => decide (x ≠ 1)).length
theorem zeros_set : ∀ {g : List Int} {i : Nat} (h : i < g.length), g[i] ≠ 1 → zeros (g.set i 1) < zeros g
  | [], i, h, _ => by simp at h
  | x :: g, 0, h, hx => by
    simp only [List.getElem_cons_zero] at hx
    simp [zeros, hx]
  | x :: g, i + 1, h, hx => by
    simp only [List.getElem_cons_succ] at hx
    have ih := zeros_set (g := g) (i := i) (by simpa using h) hx
    simp only [zeros, List.set_cons_succ, List.filter_cons] at ih ⊢
    split
    · simp only [List.length_cons]; omega
    · exact ih
def Inv (l : List G) (g : List Int) : Prop := g.length = l.length ∧ ∀ i (h : i < l.length), rd g (i : Int) = 1 → Supp l l[i]
def Cond (l : List G) (g : List Int) (i j : Nat) : Prop := ∃ (hi : i < l.length) (hj : j < l.length), rd g (j : Int) = 1 ∧ l[j].f4 = true ∧ l[j].f1 = l[i].f0 ∧ l[j].f2 = l[i].f2 ∧ l[j].f3 = l[i].f3
def Done (l : List G) (g : List Int) (i : Nat) : Prop := ∀ h : i < l.length, rd g (i : Int) = 1 ∨ (l[i].f0 ≠ ow l[i].f2 ∧ ∀ j, ¬ Cond l g i j)
theorem inv_set {l : List G} {g : List Int} {i : Nat} (h : Inv l g) (hi : i < l.length) (hs : Supp l l[i]) : Inv l (g.set i 1) := by
  refine ⟨by rw [List.length_set]; exact h.1, fun j hj hr => ?_⟩
  by_cases e : j = i
  · subst e; exact hs
  · refine h.2 j hj ?_
    rw [← hr]
    unfold rd
    simp only [List.getD_eq_getElem?_getD, Int.toNat_natCast]
    rw [List.getElem?_set_ne (fun h => e h.symm)]
theorem closed {l : List G} {g : List Int} (h : Inv l g) (hd : ∀ i, Done l g i) : ∀ i (hi : i < l.length), rd g (i : Int) = 1 ↔ Supp l l[i] := by
  intro i hi
  refine ⟨h.2 i hi, fun hs => ?_⟩
  have key : ∀ x, Supp l x → ∀ i (hi : i < l.length), l[i] = x → rd g (i : Int) = 1 := by
    intro x hx
    induction hx with
    | base x hb =>
      intro i hi e
      subst e
      rcases hd i hi with h1 | h1
      · exact h1
      · exact absurd hb h1.1
    | step x y hy _ h4 h1 h2 h3 ih =>
      intro i hi e
      subst e
      obtain ⟨j, hj, rfl⟩ := List.mem_iff_getElem.1 hy
      rcases hd i hi with g1 | g1
      · exact g1
      · exact absurd ⟨hi, hj, ih j hj rfl, h4, h1, h2, h3⟩ (g1.2 j)
  exact key _ hs i hi rfl
theorem S_eta (x : G) : (⟨x.f0, x.f1, x.f2, x.f3, x.f4⟩ : G) = x := rfl
theorem held_l3 (l : List G) (g : List Int) (p : G → Bool) (hg : g.length = l.length) (hl : l.length ≤ 1000000) (hp : ∀ i (hi : i < l.length), rd g (i : Int) = 1 ↔ p l[i] = true) (d : Nat) : ∀ (i : Nat) (out : List G), i + d = l.length → out.length ≤ i →
    Ev (fun k => right_held.l3 k g out l (l.length : Int) (i : Int)) (out ++ (l.drop i).filter p) := by
  induction d with
  | zero =>
    intro i out hi ho
    refine Ev.step (f := fun _ => some (out ++ (l.drop i).filter p)) (fun k => ?_) (Ev.now _)
    simp only [right_held.l3]
    rw [if_neg (by omega), List.drop_of_length_le (by omega), List.filter_nil, List.append_nil]
  | succ d ih =>
    intro i out hi ho
    have hlt : i < l.length := by omega
    have hw : wrap64 ((i : Int) + 1) = ((i + 1 : Nat) : Int) := by rw [w64 _ (by omega)]; omega
    rw [List.drop_eq_getElem_cons hlt]
    by_cases h1 : rd g (i : Int) = 1
    · rw [List.filter_cons_of_pos ((hp i hlt).1 h1), show out ++ l[i] :: (l.drop (i + 1)).filter p = (out ++ [l[i]]) ++ (l.drop (i + 1)).filter p from by simp]
      refine Ev.step (f := fun k => right_held.l3 k g (out ++ [l[i]]) l (l.length : Int) ((i + 1 : Nat) : Int)) (fun k => ?_) (ih (i + 1) (out ++ [l[i]]) (by omega) (by rw [List.length_append, List.length_singleton]; omega))
      simp only [right_held.l3]
      rw [if_pos (by omega), if_pos (by omega), if_pos (by omega), if_pos (by omega), if_pos h1, if_pos (by omega), hw, rdG_at hlt]
    · rw [List.filter_cons_of_neg (fun h => h1 ((hp i hlt).2 h))]
      refine Ev.step (f := fun k => right_held.l3 k g out l (l.length : Int) ((i + 1 : Nat) : Int)) (fun k => ?_) (ih (i + 1) out (by omega) (by omega))
      simp only [right_held.l3]
      rw [if_pos (by omega), if_pos (by omega), if_pos (by omega), if_pos (by omega), if_neg h1, hw]
theorem held_main (l : List G) (hl : l.length ≤ 1000000) (z : Nat) : ∀ (g : List Int), zeros g ≤ z → Inv l g → Ev (fun k => right_held.l0 k l g) (held l) := by
  induction z with
  | zero =>
    intro g hz hI
    have hall : ∀ i (h : i < l.length), rd g (i : Int) = 1 := by
      intro i h
      rw [rd_at (by rw [hI.1]; exact h)]
      by_cases e : g[i]'(by rw [hI.1]; exact h) = 1
      · exact e
      · have := zeros_set (g := g) (i := i) (by rw [hI.1]; exact h) e
        omega
    refine Ev.step (f := fun k => right_held.l1 k l g l (l.length : Int) ((0 : Nat) : Int)) (fun k => by simp only [right_held.l0]; rfl) ?_
    have go : ∀ (d i : Nat), i + d = l.length → Ev (fun k => right_held.l1 k l g l (l.length : Int) (i : Int)) (held l) := by
      intro d
      induction d with
      | zero =>
        intro i hi
        have h3 := held_l3 l g (fun x => @decide (Supp l x) (Classical.propDecidable _)) hI.1 hl (fun i hi => Iff.trans ⟨hI.2 i hi, fun _ => hall i hi⟩ (@decide_eq_true_iff (Supp l l[i]) (Classical.propDecidable _)).symm) l.length 0 [] (by omega) (by simp)
        refine Ev.step (f := fun k => right_held.l3 k g [] l (l.length : Int) ((0 : Nat) : Int)) (fun k => ?_) h3
        simp only [right_held.l1]
        rw [if_neg (by omega)]
        rfl
      | succ d ih =>
        intro i hi
        have hw : wrap64 ((i : Int) + 1) = ((i + 1 : Nat) : Int) := by rw [w64 _ (by omega)]; omega
        refine Ev.step (f := fun k => right_held.l1 k l g l (l.length : Int) ((i + 1 : Nat) : Int)) (fun k => ?_) (ih (i + 1) (by omega))
        simp only [right_held.l1]
        rw [if_pos (by omega), if_pos (by omega), if_pos (by omega), if_pos (by rw [hI.1]; omega), if_pos (hall i (by omega)), hw]
    exact go l.length 0 (by omega)
  | succ z ihz =>
    intro g hz hI
    refine Ev.step (f := fun k => right_held.l1 k l g l (l.length : Int) ((0 : Nat) : Int)) (fun k => by simp only [right_held.l0]; rfl) ?_
    have mark : ∀ i (hi : i < l.length), ¬ rd g (i : Int) = 1 → Supp l l[i] → Ev (fun k => right_held.l0 k l (g.set i 1)) (held l) := by
      intro i hi h1 hs
      refine ihz _ ?_ (inv_set hI hi hs)
      have hi2 : i < g.length := by rw [hI.1]; exact hi
      rw [rd_at hi2] at h1
      have := zeros_set hi2 h1
      omega
    have go : ∀ (d i : Nat), i + d = l.length → (∀ i', i' < i → Done l g i') → Ev (fun k => right_held.l1 k l g l (l.length : Int) (i : Int)) (held l) := by
      intro d
      induction d with
      | zero =>
        intro i hi hdn
        have hc := closed hI (fun i' => by
          by_cases h : i' < i
          · exact hdn i' h
          · intro h'; omega)
        have h3 := held_l3 l g (fun x => @decide (Supp l x) (Classical.propDecidable _)) hI.1 hl (fun i hi => Iff.trans (hc i hi) (@decide_eq_true_iff (Supp l l[i]) (Classical.propDecidable _)).symm) l.length 0 [] (by omega) (by simp)
        refine Ev.step (f := fun k => right_held.l3 k g [] l (l.length : Int) ((0 : Nat) : Int)) (fun k => ?_) h3
        simp only [right_held.l1]
        rw [if_neg (by omega)]
        rfl
      | succ d ih =>
        intro i hi hdn
        have hlt : i < l.length := by omega
        have hw : wrap64 ((i : Int) + 1) = ((i + 1 : Nat) : Int) := by rw [w64 _ (by omega)]; omega
        have next : Done l g i → Ev (fun k => right_held.l1 k l g l (l.length : Int) ((i + 1 : Nat) : Int)) (held l) := fun hd => ih (i + 1) (by omega) (fun i' h' => by
          by_cases e : i' = i
          · subst e; exact hd
          · exact hdn i' (by omega))
        by_cases h1 : rd g (i : Int) = 1
        · refine Ev.step (f := fun k => right_held.l1 k l g l (l.length : Int) ((i + 1 : Nat) : Int)) (fun k => ?_) (next (fun _ => .inl h1))
          simp only [right_held.l1]
          rw [if_pos (by omega), if_pos (by omega), if_pos (by omega), if_pos (by rw [hI.1]; omega), if_pos h1, hw]
        by_cases hb : l[i].f0 = ow l[i].f2
        · refine Ev.step (f := fun k => right_held.l0 k l (g.set i 1)) (fun k => ?_) (mark i hlt h1 (.base _ hb))
          simp only [right_held.l1]
          rw [if_pos (by omega), if_pos (by omega), if_pos (by omega), if_pos (by rw [hI.1]; omega), if_neg h1, rdG_at hlt]
          simp only [right_owner.f, Option.bind_some]
          rw [if_pos (show l[i].f0 = wrap64 (Int.tdiv l[i].f2 4) from hb)]
          rfl
        have inner : ∀ (e j : Nat), j + e = l.length → (∀ j', j' < j → ¬ Cond l g i j') → Ev (fun k => right_held.l2 k l g (i : Int) l (l.length : Int) (i : Int) l (l.length : Int) (j : Int) l[i].f0 l[i].f1 l[i].f2 l[i].f3 l[i].f4) (held l) := by
          intro e
          induction e with
          | zero =>
            intro j hj hn
            refine Ev.step (f := fun k => right_held.l1 k l g l (l.length : Int) ((i + 1 : Nat) : Int)) (fun k => ?_) (next (fun _ => .inr ⟨hb, fun j' hc => ?_⟩))
            · simp only [right_held.l2]
              rw [if_neg (by omega), hw]
            · by_cases h : j' < j
              · exact hn j' h hc
              · obtain ⟨_, h', _⟩ := hc; omega
          | succ e ihe =>
            intro j hj hn
            have hjl : j < l.length := by omega
            have hwj : wrap64 ((j : Int) + 1) = ((j + 1 : Nat) : Int) := by rw [w64 _ (by omega)]; omega
            have on : ¬ Cond l g i j → Ev (fun k => right_held.l2 k l g (i : Int) l (l.length : Int) (i : Int) l (l.length : Int) ((j + 1 : Nat) : Int) l[i].f0 l[i].f1 l[i].f2 l[i].f3 l[i].f4) (held l) := fun hc => ihe (j + 1) (by omega) (fun j' h' => by
              by_cases e : j' = j
              · subst e; exact hc
              · exact hn j' (by omega))
            have jf : ¬ Cond l g i j → Ev (fun k => right_held.j3 k l g (i : Int) l (l.length : Int) (i : Int) l (l.length : Int) (j : Int) false l[i].f0 l[i].f1 l[i].f2 l[i].f3 l[i].f4) (held l) := fun hc => by
              refine Ev.step (fun k => ?_) (on hc)
              simp only [right_held.j3]
              rw [if_neg (by simp), hwj]
            have jt : Supp l l[i] → Ev (fun k => right_held.j3 k l g (i : Int) l (l.length : Int) (i : Int) l (l.length : Int) (j : Int) true l[i].f0 l[i].f1 l[i].f2 l[i].f3 l[i].f4) (held l) := fun hs => by
              refine Ev.step (fun k => ?_) (mark i hlt h1 hs)
              simp only [right_held.j3]
              rw [if_pos trivial, if_pos (by omega), if_pos (by rw [hI.1]; omega)]
              rfl
            by_cases a1 : rd g (j : Int) = 1
            · by_cases a2 : l[j].f4 = true
              · by_cases a3 : l[j].f1 = l[i].f0
                · by_cases a4 : l[j].f2 = l[i].f2
                  · by_cases a5 : l[j].f3 = l[i].f3
                    · refine Ev.step (fun k => ?_) (jt (.step _ _ (List.getElem_mem hjl) (hI.2 j hjl a1) a2 a3 a4 a5))
                      simp only [right_held.l2]
                      rw [if_pos (by omega), if_pos (by omega), if_pos (by omega), if_pos (by rw [hI.1]; omega), if_pos a1, rdG_at hjl, if_pos a2, if_pos a3, if_pos a4, beq_iff_eq.2 a5]
                    · refine Ev.step (fun k => ?_) (jf (fun hc => a5 (by obtain ⟨_, _, _, _, _, _, h⟩ := hc; exact h)))
                      simp only [right_held.l2]
                      rw [if_pos (by omega), if_pos (by omega), if_pos (by omega), if_pos (by rw [hI.1]; omega), if_pos a1, rdG_at hjl, if_pos a2, if_pos a3, if_pos a4, beq_eq_false_iff_ne.2 a5]
                  · refine Ev.step (fun k => ?_) (jf (fun hc => a4 (by obtain ⟨_, _, _, _, _, h, _⟩ := hc; exact h)))
                    simp only [right_held.l2]
                    rw [if_pos (by omega), if_pos (by omega), if_pos (by omega), if_pos (by rw [hI.1]; omega), if_pos a1, rdG_at hjl, if_pos a2, if_pos a3, if_neg a4]
                · refine Ev.step (fun k => ?_) (jf (fun hc => a3 (by obtain ⟨_, _, _, _, h, _, _⟩ := hc; exact h)))
                  simp only [right_held.l2]
                  rw [if_pos (by omega), if_pos (by omega), if_pos (by omega), if_pos (by rw [hI.1]; omega), if_pos a1, rdG_at hjl, if_pos a2, if_neg a3]
              · refine Ev.step (fun k => ?_) (jf (fun hc => a2 (by obtain ⟨_, _, _, h, _, _, _⟩ := hc; exact h)))
                simp only [right_held.l2]
                rw [if_pos (by omega), if_pos (by omega), if_pos (by omega), if_pos (by rw [hI.1]; omega), if_pos a1, rdG_at hjl, if_neg a2]
            · refine Ev.step (fun k => ?_) (jf (fun hc => a1 (by obtain ⟨_, _, h, _, _, _, _⟩ := hc; exact h)))
              simp only [right_held.l2]
              rw [if_pos (by omega), if_pos (by omega), if_pos (by omega), if_pos (by rw [hI.1]; omega), if_neg a1]
        refine Ev.step (f := fun k => right_held.l2 k l g (i : Int) l (l.length : Int) (i : Int) l (l.length : Int) ((0 : Nat) : Int) l[i].f0 l[i].f1 l[i].f2 l[i].f3 l[i].f4) (fun k => ?_) (inner l.length 0 (by omega) (fun j' h => by omega))
        simp only [right_held.l1]
        rw [if_pos (by omega), if_pos (by omega), if_pos (by omega), if_pos (by rw [hI.1]; omega), if_neg h1, rdG_at hlt]
        simp only [right_owner.f, Option.bind_some]
        rw [if_neg (show ¬ l[i].f0 = wrap64 (Int.tdiv l[i].f2 4) from hb)]
        rfl
    exact go l.length 0 (by omega) (fun i' h => by omega)
theorem held_ev (l : List G) (hl : l.length ≤ 1000000) : Ev (fun k => right_held.f k l) (held l) := by
  have h := held_main l hl (zeros (List.replicate l.length 0)) (List.replicate l.length 0) (Nat.le_refl _) ⟨by simp, fun i hi h => by rw [rd_at (by simpa using hi)] at h; simp at h⟩
  refine Ev.congr (fun k => ?_) h
  simp only [right_held.f, Int.toNat_natCast]
  rw [if_pos (by omega), if_pos (by omega)]

/-! ### grants in order -/
theorem ow_eq (o : Int) (h : 0 ≤ o ∧ o < 1000) : ow o = o / 4 := by
  unfold ow
  rw [Int.tdiv_eq_ediv_of_nonneg h.1, w64 _ (by omega)]
def inb (g : G) : Prop := 0 ≤ g.f0 ∧ g.f0 < 3 ∧ 0 ≤ g.f1 ∧ g.f1 < 3 ∧ 0 ≤ g.f2 ∧ g.f2 < 12 ∧ (g.f3 = 1 ∨ g.f3 = 2)
def Bd (g : G) : Prop := inb g ∧ g.f0 ≠ g.f1 ∧ g.f1 ≠ ow g.f2
theorem bounds_j0 (g : G) (h : inb g) (r : Int) (H : Ev (fun k => right_bounds.j1 k false g.f0 g.f1 g.f2 g.f3 g.f4) r) : Ev (fun k => right_bounds.f k g.f0 g.f1 g.f2 g.f3 g.f4) r := by
  obtain ⟨h0, h1, h2, h3, h4, h5, h6⟩ := h
  refine Ev.congr (f := fun k => right_bounds.j0 k false g.f0 g.f1 g.f2 g.f3 g.f4) (fun k => ?_) ?_
  · simp only [right_bounds.f]
    rw [if_neg (by omega), if_neg (by omega), if_neg (by omega), if_neg (by omega), if_neg (by omega), decide_eq_false (by omega)]
  · refine Ev.step (fun k => ?_) H
    simp only [right_bounds.j0]
    rw [if_neg (by simp)]
    rcases h6 with h6 | h6
    · rw [if_pos h6]
    · rw [if_neg (by omega), h6]
      rfl
theorem bounds_ok (g : G) (h : Bd g) : Ev (fun k => right_bounds.f k g.f0 g.f1 g.f2 g.f3 g.f4) 0 := by
  refine bounds_j0 g h.1 _ (Ev.step (f := fun _ => some 0) (fun k => ?_) (Ev.now _))
  simp only [right_bounds.j1, right_owner.f, Option.bind_some]
  rw [if_neg (by simp), if_neg h.2.1, if_neg (show ¬ g.f1 = wrap64 (Int.tdiv g.f2 4) from h.2.2)]
theorem bounds_bad (g : G) (h : inb g) (hb : ¬ Bd g) : Ev (fun k => right_bounds.f k g.f0 g.f1 g.f2 g.f3 g.f4) 3 := by
  refine bounds_j0 g h _ (Ev.step (f := fun _ => some 3) (fun k => ?_) (Ev.now _))
  simp only [right_bounds.j1, right_owner.f, Option.bind_some]
  rw [if_neg (by simp)]
  by_cases e : g.f0 = g.f1
  · rw [if_pos e]
  · rw [if_neg e]
    by_cases e2 : g.f1 = ow g.f2
    · rw [if_pos (show g.f1 = wrap64 (Int.tdiv g.f2 4) from e2)]
    · exact absurd ⟨h, e, e2⟩ hb
def plt (x y : G) : Prop := x.f2 < y.f2 ∨ x.f2 = y.f2 ∧ (x.f3 < y.f3 ∨ x.f3 = y.f3 ∧ (x.f0 < y.f0 ∨ x.f0 = y.f0 ∧ x.f1 < y.f1))
instance (x y : G) : Decidable (plt x y) := by unfold plt; infer_instance
def peq (x y : G) : Bool := x.f2 == y.f2 && (x.f3 == y.f3 && (x.f0 == y.f0 && (x.f1 == y.f1)))
theorem peq_iff {x y : G} : peq x y = true ↔ x.f2 = y.f2 ∧ x.f3 = y.f3 ∧ x.f0 = y.f0 ∧ x.f1 = y.f1 := by unfold peq; simp
theorem plt_trans {x y z : G} (h : plt x y) (k : plt y z) : plt x z := by unfold plt at *; omega
theorem plt_irrefl {x : G} : ¬ plt x x := by unfold plt; omega
theorem plt_peq {x y z : G} (h : plt x y) (k : peq y z = true) : plt x z := by rw [peq_iff] at k; unfold plt at *; omega
theorem peq_plt {x y z : G} (h : peq x y = true) (k : plt y z) : plt x z := by rw [peq_iff] at h; unfold plt at *; omega
theorem plt_not_peq {x y : G} (h : plt x y) : peq x y = false := by
  cases e : peq x y with
  | false => rfl
  | true => rw [peq_iff] at e; unfold plt at h; omega
theorem peq_symm {x y : G} (h : peq x y = true) : peq y x = true := by rw [peq_iff] at *; omega
theorem peq_refl (x : G) : peq x x = true := by rw [peq_iff]; simp
theorem plt_total {x y : G} (h : peq x y = false) (h2 : ¬ plt y x) : plt x y := by
  have h3 : ¬ (x.f2 = y.f2 ∧ x.f3 = y.f3 ∧ x.f0 = y.f0 ∧ x.f1 = y.f1) := fun e => by rw [peq_iff.2 e] at h; cases h
  unfold plt at *
  omega
theorem before_eq (x y : G) : right_place_before.f x.f2 x.f3 x.f0 x.f1 y.f2 y.f3 y.f0 y.f1 = some (decide (plt x y)) := by
  unfold right_place_before.f
  by_cases h1 : x.f2 = y.f2
  · rw [if_pos h1]
    by_cases h2 : x.f3 = y.f3
    · rw [if_pos h2]
      by_cases h3 : x.f0 = y.f0
      · rw [if_pos h3]; congr 1; rw [decide_eq_decide]; unfold plt; omega
      · rw [if_neg h3]; congr 1; rw [decide_eq_decide]; unfold plt; omega
    · rw [if_neg h2]; congr 1; rw [decide_eq_decide]; unfold plt; omega
  · rw [if_neg h1]; congr 1; rw [decide_eq_decide]; unfold plt; omega
/-! ### lists of grants that may be -/
structure Good (l : List G) : Prop where
  bd : ∀ x ∈ l, Bd x
  sorted : l.Pairwise plt
  supp : ∀ x ∈ l, Supp l x
theorem held_all {l : List G} (h : ∀ x ∈ l, Supp l x) : held l = l := by
  unfold held
  rw [List.filter_eq_self]
  intro x hx
  simpa using h x hx
theorem supp_held {l : List G} {x : G} (h : Supp l x) : x ∈ l → Supp (held l) x := by
  induction h with
  | base x hb => exact fun _ => .base x hb
  | step x y hy hs h4 h1 h2 h3 ih => exact fun _ => .step x y (mem_held.2 ⟨hy, hs⟩) (ih hy) h4 h1 h2 h3
theorem good_held {l : List G} (hb : ∀ x ∈ l, Bd x) (hs : l.Pairwise plt) : Good (held l) :=
  ⟨fun x hx => hb x (mem_held.1 hx).1, hs.sublist List.filter_sublist, fun x hx => supp_held (mem_held.1 hx).2 (mem_held.1 hx).1⟩
theorem supp_mono {l m : List G} (hm : ∀ x ∈ l, ∃ x' ∈ m, peq x' x = true ∧ (x.f4 = true → x'.f4 = true)) {x : G} (h : Supp l x) : ∀ x', peq x' x = true → Supp m x' := by
  induction h with
  | base x hb =>
    intro x' hp
    rw [peq_iff] at hp
    exact .base x' (by rw [hp.2.2.1, hp.1]; exact hb)
  | step x y hy _ h4 h1 h2 h3 ih =>
    intro x' hp
    obtain ⟨y', hy', hpy, ho⟩ := hm y hy
    have hp' := hp
    have hpy' := hpy
    rw [peq_iff] at hp' hpy'
    exact .step x' y' hy' (ih y' hpy) (ho h4) (by omega) (by omega) (by omega)
theorem Check_ev (l : List G) (h : Good l) (hl : l.length ≤ 96) : Ev (fun k => right_Check.f k l) 0 := by
  have loop : ∀ (d i : Nat), i + d = l.length → Ev (fun k => right_Check.l0 k l l (l.length : Int) (i : Int)) 0 := by
    intro d
    induction d with
    | zero =>
      intro i hi
      refine Ev.step (f := fun k => (right_held.f k l).bind fun t138 => (if (t138.length : Int) = (l.length : Int) then (some 0) else (some 11))) (fun k => ?_) (Ev.bind (held_ev l (by omega)) ?_)
      · simp only [right_Check.l0]
        rw [if_neg (by omega)]
      · simp only [held_all h.supp, if_true]
        exact Ev.now _
    | succ d ih =>
      intro i hi
      have hlt : i < l.length := by omega
      have hw : wrap64 ((i : Int) + 1) = ((i + 1 : Nat) : Int) := by rw [w64 _ (by omega)]; omega
      refine Ev.step (f := fun k => (right_bounds.f k l[i].f0 l[i].f1 l[i].f2 l[i].f3 l[i].f4).bind fun t127 => if t127 = 0 then right_Check.l0 k l l (l.length : Int) ((i + 1 : Nat) : Int) else some t127) (fun k => ?_) (Ev.bind (bounds_ok _ (h.bd _ (List.getElem_mem hlt))) ?_)
      · simp only [right_Check.l0]
        rw [if_pos (by omega), if_pos (by omega), if_pos (by omega), rdG_at hlt, hw]
        congr 1
        funext t
        by_cases ht : t = 0
        · rw [if_pos ht, if_pos ht]
          by_cases h0 : (i : Int) > 0
          · obtain ⟨j, rfl⟩ : ∃ j, i = j + 1 := ⟨i - 1, by omega⟩
            have hj : j < l.length := by omega
            have hwj : wrap64 (((j + 1 : Nat) : Int) - 1) = (j : Int) := by rw [w64 _ (by omega)]; omega
            rw [if_pos h0, hwj, if_pos (by omega), if_pos (by omega), rdG_at hj]
            simp only [right_placed.f, Option.bind_some, before_eq]
            have hp : plt l[j] l[j + 1] := List.pairwise_iff_getElem.1 h.sorted j (j + 1) hj hlt (by omega)
            rw [decide_eq_true hp, if_pos rfl]
          · rw [if_neg h0]
        · rw [if_neg ht, if_neg ht]
      · simp only [if_true]
        exact ih (i + 1) (by omega)
  refine Ev.congr (fun k => ?_) (loop l.length 0 (by omega))
  simp only [right_Check.f]
  rw [if_neg (by omega)]
  rfl
/-- Has a user a right, by whom? -/
def MayP (l : List G) (u o w : Int) : Prop := ow o = u ∨ ∃ g ∈ l, g.f1 = u ∧ g.f2 = o ∧ g.f3 = w ∧ g.f4 = true
def HasP (l : List G) (u o w : Int) : Prop := ow o = u ∨ ∃ g ∈ l, g.f1 = u ∧ g.f2 = o ∧ g.f3 = w
theorem may_loop (l : List G) (hl : l.length ≤ 96) (u o w : Int) (b : Bool) (d : Nat) : ∀ i : Nat, i + d = l.length → (b = true ↔ ∃ g ∈ l.drop i, g.f1 = u ∧ g.f2 = o ∧ g.f3 = w ∧ g.f4 = true) → Ev (fun k => right_may.l0 k u o w l (l.length : Int) (i : Int)) b := by
  induction d with
  | zero =>
    intro i hi hb
    refine Ev.step (f := fun _ => some b) (fun k => ?_) (Ev.now _)
    simp only [right_may.l0]
    rw [if_neg (by omega)]
    rw [List.drop_of_length_le (by omega)] at hb
    cases b with
    | false => rfl
    | true => obtain ⟨g, hg, _⟩ := hb.1 rfl; simp at hg
  | succ d ih =>
    intro i hi hb
    have hlt : i < l.length := by omega
    have hw : wrap64 ((i : Int) + 1) = ((i + 1 : Nat) : Int) := by rw [w64 _ (by omega)]; omega
    rw [List.drop_eq_getElem_cons hlt] at hb
    have no : ¬ (l[i].f1 = u ∧ l[i].f2 = o ∧ l[i].f3 = w ∧ l[i].f4 = true) → Ev (fun k => right_may.l0 k u o w l (l.length : Int) ((i + 1 : Nat) : Int)) b := fun hn => ih (i + 1) (by omega) (by
      rw [hb]
      constructor
      · rintro ⟨g, hg, hh⟩
        rcases List.mem_cons.1 hg with rfl | hg
        · exact absurd hh hn
        · exact ⟨g, hg, hh⟩
      · rintro ⟨g, hg, hh⟩
        exact ⟨g, List.mem_cons_of_mem _ hg, hh⟩)
    have jf : ¬ (l[i].f1 = u ∧ l[i].f2 = o ∧ l[i].f3 = w ∧ l[i].f4 = true) → Ev (fun k => right_may.j1 k u o w l (l.length : Int) (i : Int) false) b := fun hn => by
      refine Ev.step (fun k => ?_) (no hn)
      simp only [right_may.j1]
      rw [if_neg (by simp), hw]
    by_cases a1 : l[i].f1 = u
    · by_cases a2 : l[i].f2 = o
      · by_cases a3 : l[i].f3 = w
        · cases a4 : l[i].f4 with
          | true =>
            have hbt : b = true := hb.2 ⟨l[i], List.mem_cons_self, a1, a2, a3, a4⟩
            subst hbt
            refine Ev.step (f := fun k => right_may.j1 k u o w l (l.length : Int) (i : Int) true) (fun k => ?_) (Ev.step (f := fun _ => some true) (fun k => ?_) (Ev.now _))
            · simp only [right_may.l0]
              rw [if_pos (by omega), if_pos (by omega), if_pos (by omega), rdG_at hlt, if_pos a1, if_pos a2, if_pos a3, a4]
            · simp only [right_may.j1]
              rfl
          | false =>
            refine Ev.step (fun k => ?_) (jf (fun h => by rw [a4] at h; simp at h))
            simp only [right_may.l0]
            rw [if_pos (by omega), if_pos (by omega), if_pos (by omega), rdG_at hlt, if_pos a1, if_pos a2, if_pos a3, a4]
        · refine Ev.step (fun k => ?_) (jf (fun h => a3 h.2.2.1))
          simp only [right_may.l0]
          rw [if_pos (by omega), if_pos (by omega), if_pos (by omega), rdG_at hlt, if_pos a1, if_pos a2, if_neg a3]
      · refine Ev.step (fun k => ?_) (jf (fun h => a2 h.2.1))
        simp only [right_may.l0]
        rw [if_pos (by omega), if_pos (by omega), if_pos (by omega), rdG_at hlt, if_pos a1, if_neg a2]
    · refine Ev.step (fun k => ?_) (jf (fun h => a1 h.1))
      simp only [right_may.l0]
      rw [if_pos (by omega), if_pos (by omega), if_pos (by omega), rdG_at hlt, if_neg a1]
theorem may_ev (l : List G) (hl : l.length ≤ 96) (u o w : Int) (b : Bool) (hb : b = true ↔ MayP l u o w) : Ev (fun k => right_may.f k l u o w) b := by
  unfold right_may.f
  simp only [right_owner.f, Option.bind_some]
  by_cases h : wrap64 (Int.tdiv o 4) = u
  · simp only [if_pos h]
    rw [hb.2 (.inl h)]
    exact Ev.now _
  · simp only [if_neg h]
    refine may_loop l hl u o w b l.length 0 (by omega) ?_
    rw [hb, List.drop_zero]
    unfold MayP
    constructor
    · rintro (h1 | h1)
      · exact absurd h1 h
      · exact h1
    · exact .inr
theorem has_loop (l : List G) (hl : l.length ≤ 96) (u o w : Int) (b : Bool) (d : Nat) : ∀ i : Nat, i + d = l.length → (b = true ↔ ∃ g ∈ l.drop i, g.f1 = u ∧ g.f2 = o ∧ g.f3 = w) → Ev (fun k => right_Has.l0 k u o w l (l.length : Int) (i : Int)) (b, 0) := by
  induction d with
  | zero =>
    intro i hi hb
    refine Ev.step (f := fun _ => some (b, 0)) (fun k => ?_) (Ev.now _)
    simp only [right_Has.l0]
    rw [if_neg (by omega)]
    rw [List.drop_of_length_le (by omega)] at hb
    cases b with
    | false => rfl
    | true => obtain ⟨g, hg, _⟩ := hb.1 rfl; simp at hg
  | succ d ih =>
    intro i hi hb
    have hlt : i < l.length := by omega
    have hw : wrap64 ((i : Int) + 1) = ((i + 1 : Nat) : Int) := by rw [w64 _ (by omega)]; omega
    rw [List.drop_eq_getElem_cons hlt] at hb
    have jf : ¬ (l[i].f1 = u ∧ l[i].f2 = o ∧ l[i].f3 = w) → Ev (fun k => right_Has.j1 k u o w l (l.length : Int) (i : Int) false) (b, 0) := fun hn => by
      refine Ev.step (fun k => ?_) (ih (i + 1) (by omega) (by
        rw [hb]
        constructor
        · rintro ⟨g, hg, hh⟩
          rcases List.mem_cons.1 hg with rfl | hg
          · exact absurd hh hn
          · exact ⟨g, hg, hh⟩
        · rintro ⟨g, hg, hh⟩
          exact ⟨g, List.mem_cons_of_mem _ hg, hh⟩))
      simp only [right_Has.j1]
      rw [if_neg (by simp), hw]
    by_cases a1 : l[i].f1 = u
    · by_cases a2 : l[i].f2 = o
      · by_cases a3 : l[i].f3 = w
        · have hbt : b = true := hb.2 ⟨l[i], List.mem_cons_self, a1, a2, a3⟩
          subst hbt
          refine Ev.step (f := fun k => right_Has.j1 k u o w l (l.length : Int) (i : Int) true) (fun k => ?_) (Ev.step (f := fun _ => some (true, 0)) (fun k => ?_) (Ev.now _))
          · simp only [right_Has.l0]
            rw [if_pos (by omega), if_pos (by omega), if_pos (by omega), rdG_at hlt, if_pos a1, if_pos a2, beq_iff_eq.2 a3]
          · simp only [right_Has.j1]
            rfl
        · refine Ev.step (fun k => ?_) (jf (fun h => a3 h.2.2))
          simp only [right_Has.l0]
          rw [if_pos (by omega), if_pos (by omega), if_pos (by omega), rdG_at hlt, if_pos a1, if_pos a2, beq_eq_false_iff_ne.2 a3]
      · refine Ev.step (fun k => ?_) (jf (fun h => a2 h.2.1))
        simp only [right_Has.l0]
        rw [if_pos (by omega), if_pos (by omega), if_pos (by omega), rdG_at hlt, if_pos a1, if_neg a2]
    · refine Ev.step (fun k => ?_) (jf (fun h => a1 h.1))
      simp only [right_Has.l0]
      rw [if_pos (by omega), if_pos (by omega), if_pos (by omega), rdG_at hlt, if_neg a1]
theorem asked_ok (l : List G) (h : Good l) (hl : l.length ≤ 96) (u o w : Int) (hu : 0 ≤ u ∧ u < 3) (ho : 0 ≤ o ∧ o < 12) (hw : w = 1 ∨ w = 2) : Ev (fun k => right_asked.f k l u o w) 0 := by
  refine Ev.bind (Check_ev l h hl) ?_
  simp only [if_true]
  simp only [if_neg (show ¬ u < 0 by omega), if_neg (show ¬ u ≥ 3 by omega), if_neg (show ¬ o < 0 by omega), decide_eq_false (show ¬ o ≥ 12 by omega)]
  refine Ev.step (f := fun _ => some 0) (fun k => ?_) (Ev.now _)
  simp only [right_asked.j0]
  rw [if_neg (by simp)]
  rcases hw with hw | hw
  · rw [if_pos hw]
  · rw [if_neg (by omega), if_pos hw]
theorem asked_far (l : List G) (h : Good l) (hl : l.length ≤ 96) (u w : Int) (hu : 0 ≤ u ∧ u < 3) : Ev (fun k => right_asked.f k l u 12 w) 6 := by
  refine Ev.bind (Check_ev l h hl) ?_
  simp only [if_true]
  simp only [if_neg (show ¬ u < 0 by omega), if_neg (show ¬ u ≥ 3 by omega), if_neg (show ¬ (12 : Int) < 0 by omega), decide_eq_true (show (12 : Int) ≥ 12 by omega)]
  refine Ev.step (f := fun _ => some 6) (fun k => ?_) (Ev.now _)
  simp only [right_asked.j0]
  rfl
theorem Has_ev (l : List G) (h : Good l) (hl : l.length ≤ 96) (u o w : Int) (hu : 0 ≤ u ∧ u < 3) (ho : 0 ≤ o ∧ o < 12) (hw : w = 1 ∨ w = 2) (b : Bool) (hb : b = true ↔ HasP l u o w) : Ev (fun k => right_Has.f k l u o w) (b, 0) := by
  refine Ev.bind (asked_ok l h hl u o w hu ho hw) ?_
  simp only [if_true, right_owner.f, Option.bind_some]
  by_cases e : wrap64 (Int.tdiv o 4) = u
  · simp only [if_pos e]
    rw [hb.2 (.inl e)]
    exact Ev.now _
  · simp only [if_neg e]
    refine has_loop l hl u o w b l.length 0 (by omega) ?_
    rw [hb, List.drop_zero]
    unfold HasP
    constructor
    · rintro (h1 | h1)
      · exact absurd h1 e
      · exact h1
    · exact .inr
theorem Has_far (l : List G) (h : Good l) (hl : l.length ≤ 96) (u w : Int) (hu : 0 ≤ u ∧ u < 3) : Ev (fun k => right_Has.f k l u 12 w) (false, 6) := by
  refine Ev.bind (asked_far l h hl u w hu) ?_
  simp only [if_neg (show ¬ (6 : Int) = 0 by decide)]
  exact Ev.now _

/-! ### given and taken -/
def rest (l : List G) (y : G) : List G := l.filter fun x => !peq x y
theorem mem_rest {l : List G} {x y : G} : x ∈ rest l y ↔ x ∈ l ∧ peq x y = false := by unfold rest; simp
theorem neq_peq (x y : G) : (!(x.f2 == y.f2) || (!(x.f3 == y.f3) || (!(x.f0 == y.f0) || (!(x.f1 == y.f1))))) = !peq x y := by
  unfold peq
  cases x.f2 == y.f2 <;> cases x.f3 == y.f3 <;> cases x.f0 == y.f0 <;> cases x.f1 == y.f1 <;> rfl
theorem rest_len (l : List G) (y : G) : (rest l y).length ≤ l.length := List.length_filter_le _ _
theorem take_loop (l : List G) (hl : l.length ≤ 96) (y : G) (d : Nat) : ∀ (i : Nat) (out : List G), i + d = l.length → out ++ (l.drop i).filter (fun x => !peq x y) = rest l y → out.length ≤ i →
    Ev (fun k => right_Take.l0 k l out l (l.length : Int) (i : Int) y.f0 y.f1 y.f2 y.f3 y.f4) (if (rest l y).length = l.length then ([], 5) else (held (rest l y), 0)) := by
  induction d with
  | zero =>
    intro i out hi ho hn
    rw [List.drop_of_length_le (by omega), List.filter_nil, List.append_nil] at ho
    subst ho
    by_cases h : (rest l y).length = l.length
    · rw [if_pos h]
      refine Ev.step (f := fun _ => some ([], 5)) (fun k => ?_) (Ev.now _)
      simp only [right_Take.l0]
      rw [if_neg (by omega), if_pos (by omega)]
    · rw [if_neg h]
      refine Ev.step (f := fun k => (right_held.f k (rest l y)).bind fun t157 => some (t157, 0)) (fun k => ?_) (Ev.bind (held_ev _ (by have := rest_len l y; omega)) (Ev.now _))
      simp only [right_Take.l0]
      rw [if_neg (by omega), if_neg (by omega)]
  | succ d ih =>
    intro i out hi ho hn
    have hlt : i < l.length := by omega
    have hw : wrap64 ((i : Int) + 1) = ((i + 1 : Nat) : Int) := by rw [w64 _ (by omega)]; omega
    rw [List.drop_eq_getElem_cons hlt] at ho
    cases hp : peq l[i] y with
    | true =>
      rw [List.filter_cons_of_neg (by simp [hp])] at ho
      refine Ev.step (fun k => ?_) (ih (i + 1) out (by omega) ho (by omega))
      simp only [right_Take.l0]
      rw [if_pos (by omega), if_pos (by omega), if_pos (by omega), rdG_at hlt]
      simp only [right_placed.f, Option.bind_some, neq_peq]
      rw [hp, if_neg (by simp), hw]
    | false =>
      rw [List.filter_cons_of_pos (by simp [hp])] at ho
      refine Ev.step (fun k => ?_) (ih (i + 1) (out ++ [l[i]]) (by omega) (by rw [← ho]; simp) (by rw [List.length_append, List.length_singleton]; omega))
      simp only [right_Take.l0]
      rw [if_pos (by omega), if_pos (by omega), if_pos (by omega), rdG_at hlt]
      simp only [right_placed.f, Option.bind_some, neq_peq]
      rw [hp, if_pos (by simp), if_pos (by omega), hw]
theorem Take_ev (l : List G) (h : Good l) (hl : l.length ≤ 96) (y : G) (hy : Bd y) : Ev (fun k => right_Take.f k l y.f0 y.f1 y.f2 y.f3 y.f4) (if (rest l y).length = l.length then ([], 5) else (held (rest l y), 0)) := by
  refine Ev.bind (Check_ev l h hl) ?_
  simp only [if_true]
  refine Ev.bind (bounds_ok y hy) ?_
  simp only [if_true]
  exact take_loop l hl y l.length 0 [] (by omega) (by simp [rest]) (by simp)
theorem Take_bad (l : List G) (h : Good l) (hl : l.length ≤ 96) (y : G) (hi : inb y) (hy : ¬ Bd y) : Ev (fun k => right_Take.f k l y.f0 y.f1 y.f2 y.f3 y.f4) ([], 3) := by
  refine Ev.bind (Check_ev l h hl) ?_
  simp only [if_true]
  refine Ev.bind (bounds_bad y hi hy) ?_
  simp only [if_neg (show ¬ (3 : Int) = 0 by decide)]
  exact Ev.now _
theorem good_rest {l : List G} (h : Good l) (y : G) : Good (held (rest l y)) :=
  good_held (fun x hx => h.bd x (mem_rest.1 hx).1) (h.sorted.sublist List.filter_sublist)
/-- With the option of those that are alike. -/
def opt (y : G) (b : Bool) : G := ⟨y.f0, y.f1, y.f2, y.f3, b⟩
def insR : List G → G → List G
  | [], y => [y]
  | h :: t, y => if peq h y then opt y (y.f4 || h.f4) :: t else if plt y h then y :: h :: t else h :: insR t y
/-- As the loop does it. -/
def giveL : List G → List G → Bool → G → List G
  | [], out, b, y => if b then out else out ++ [y]
  | h :: t, out, b, y => if peq h y then giveL t out b (opt y (y.f4 || h.f4)) else if b then giveL t (out ++ [h]) b y else if plt y h then giveL t (out ++ [y] ++ [h]) true y else giveL t (out ++ [h]) b y
theorem peq_opt (x y : G) (b : Bool) : peq x (opt y b) = peq x y := rfl
theorem plt_opt (x y : G) (b : Bool) : plt (opt y b) x ↔ plt y x := Iff.rfl
theorem giveL_in : ∀ (l out : List G) (y : G), (∀ x ∈ l, plt y x) → giveL l out true y = out ++ l
  | [], out, y, _ => by simp [giveL]
  | h :: t, out, y, hh => by
    have h1 := hh h List.mem_cons_self
    have h2 : peq h y = false := by
      cases e : peq h y with
      | false => rfl
      | true => exact absurd (plt_peq h1 e) plt_irrefl
    rw [giveL, h2]
    simp only [Bool.false_eq_true, if_false, if_true]
    rw [giveL_in t _ y (fun x hx => hh x (List.mem_cons_of_mem _ hx))]
    simp
theorem giveL_ins : ∀ (l out : List G) (y : G), l.Pairwise plt → giveL l out false y = out ++ insR l y
  | [], out, y, _ => by simp [giveL, insR]
  | h :: t, out, y, hs => by
    rw [List.pairwise_cons] at hs
    rw [giveL, insR]
    cases hp : peq h y with
    | true =>
      simp only [if_true]
      cases t with
      | nil => simp [giveL]
      | cons h2 t2 =>
        have ht : ∀ x ∈ h2 :: t2, plt (opt y (y.f4 || h.f4)) x := fun x hx => by
          rw [plt_opt]
          exact peq_plt (peq_symm hp) (hs.1 x hx)
        have h3 := ht h2 List.mem_cons_self
        have h4 : peq h2 (opt y (y.f4 || h.f4)) = false := by
          cases e : peq h2 (opt y (y.f4 || h.f4)) with
          | false => rfl
          | true => exact absurd (plt_peq h3 e) plt_irrefl
        rw [giveL, h4]
        simp only [Bool.false_eq_true, if_false, if_pos h3]
        rw [giveL_in t2 _ _ (fun x hx => ht x (List.mem_cons_of_mem _ hx))]
        simp
    | false =>
      simp only [Bool.false_eq_true, if_false]
      by_cases hb : plt y h
      · rw [if_pos hb, if_pos hb, giveL_in t _ y (fun x hx => plt_trans hb (hs.1 x hx))]
        simp
      · rw [if_neg hb, if_neg hb, giveL_ins t _ y hs.2]
        simp

theorem beq_peq (x y : G) : (x.f2 == y.f2 && (x.f3 == y.f3 && (x.f0 == y.f0 && (x.f1 == y.f1)))) = peq x y := by unfold peq; cases x.f2 == y.f2 <;> rfl
theorem give_loop (l : List G) (hl : l.length ≤ 96) (d : Nat) : ∀ (i : Nat) (out : List G) (b : Bool) (y : G), i + d = l.length → out.length ≤ i + b.toNat →
    Ev (fun k => right_Give.l0 k out b l (l.length : Int) (i : Int) y.f0 y.f1 y.f2 y.f3 y.f4) (giveL (l.drop i) out b y, 0) := by
  induction d with
  | zero =>
    intro i out b y hi hn
    rw [List.drop_of_length_le (by omega)]
    refine Ev.step (f := fun _ => some (giveL [] out b y, 0)) (fun k => ?_) (Ev.now _)
    simp only [right_Give.l0, giveL]
    rw [if_neg (by omega)]
    cases b with
    | true => rfl
    | false =>
      simp only [Bool.false_eq_true, if_false]
      simp only [Bool.toNat_false] at hn
      rw [if_pos (by omega)]
  | succ d ih =>
    intro i out b y hi hn
    have hlt : i < l.length := by omega
    have hb1 : b.toNat ≤ 1 := Bool.toNat_le b
    have hw : wrap64 ((i : Int) + 1) = ((i + 1 : Nat) : Int) := by rw [w64 _ (by omega)]; omega
    rw [List.drop_eq_getElem_cons hlt, giveL]
    cases hp : peq l[i] y with
    | true =>
      simp only [if_true]
      refine Ev.step (fun k => ?_) (ih (i + 1) out b (opt y (y.f4 || l[i].f4)) (by omega) (by omega))
      simp only [right_Give.l0]
      rw [if_pos (by omega), if_pos (by omega), if_pos (by omega), rdG_at hlt]
      simp only [right_placed.f, Option.bind_some, beq_peq]
      rw [hp, if_pos rfl, hw]
      cases h4 : y.f4 with
      | true => simp [opt]
      | false => simp [opt]
    | false =>
      simp only [Bool.false_eq_true, if_false]
      cases b with
      | true =>
        simp only [Bool.toNat_true] at hn
        simp only [if_true]
        refine Ev.step (fun k => ?_) (ih (i + 1) (out ++ [l[i]]) true y (by omega) (by rw [List.length_append, List.length_singleton]; simp only [Bool.toNat_true]; omega))
        simp only [right_Give.l0]
        rw [if_pos (by omega), if_pos (by omega), if_pos (by omega), rdG_at hlt]
        simp only [right_placed.f, Option.bind_some, beq_peq]
        rw [hp, if_neg (by simp)]
        simp only [if_true]
        rw [if_pos (by omega), hw]
      | false =>
        simp only [Bool.toNat_false] at hn
        simp only [Bool.false_eq_true, if_false]
        by_cases hb : plt y l[i]
        · rw [if_pos hb]
          refine Ev.step (fun k => ?_) (ih (i + 1) (out ++ [y] ++ [l[i]]) true y (by omega) (by simp only [List.length_append, List.length_singleton, Bool.toNat_true]; omega))
          simp only [right_Give.l0]
          rw [if_pos (by omega), if_pos (by omega), if_pos (by omega), rdG_at hlt]
          simp only [right_placed.f, Option.bind_some, beq_peq, before_eq]
          rw [hp, if_neg (by simp)]
          simp only [Bool.false_eq_true, if_false]
          rw [decide_eq_true hb]
          simp only [if_true, Option.bind_some]
          rw [if_pos (by omega), if_pos (by simp only [List.length_append, List.length_singleton]; omega), hw]
        · rw [if_neg hb]
          refine Ev.step (fun k => ?_) (ih (i + 1) (out ++ [l[i]]) false y (by omega) (by simp only [List.length_append, List.length_singleton, Bool.toNat_false]; omega))
          simp only [right_Give.l0]
          rw [if_pos (by omega), if_pos (by omega), if_pos (by omega), rdG_at hlt]
          simp only [right_placed.f, Option.bind_some, beq_peq, before_eq]
          rw [hp, if_neg (by simp)]
          simp only [Bool.false_eq_true, if_false]
          rw [decide_eq_false hb]
          simp only [Bool.false_eq_true, if_false]
          rw [if_pos (by omega), hw]
theorem Give_ok (l : List G) (h : Good l) (hl : l.length ≤ 96) (y : G) (hy : Bd y) (hm : MayP l y.f0 y.f2 y.f3) : Ev (fun k => right_Give.f k l y.f0 y.f1 y.f2 y.f3 y.f4) (insR l y, 0) := by
  refine Ev.bind (Check_ev l h hl) ?_
  simp only [if_true]
  refine Ev.bind (bounds_ok y hy) ?_
  simp only [if_true]
  refine Ev.bind (may_ev l hl _ _ _ true (by simp [hm])) ?_
  simp only [if_true]
  have := give_loop l hl l.length 0 [] false y (by omega) (by simp)
  rw [List.drop_zero, giveL_ins l [] y h.sorted, List.nil_append] at this
  exact this
theorem Give_no (l : List G) (h : Good l) (hl : l.length ≤ 96) (y : G) (hy : Bd y) (hm : ¬ MayP l y.f0 y.f2 y.f3) : Ev (fun k => right_Give.f k l y.f0 y.f1 y.f2 y.f3 y.f4) ([], 5) := by
  refine Ev.bind (Check_ev l h hl) ?_
  simp only [if_true]
  refine Ev.bind (bounds_ok y hy) ?_
  simp only [if_true]
  refine Ev.bind (may_ev l hl _ _ _ false (by simp [hm])) ?_
  simp only [Bool.false_eq_true, if_false]
  exact Ev.now _
theorem Give_bad (l : List G) (h : Good l) (hl : l.length ≤ 96) (y : G) (hi : inb y) (hy : ¬ Bd y) : Ev (fun k => right_Give.f k l y.f0 y.f1 y.f2 y.f3 y.f4) ([], 3) := by
  refine Ev.bind (Check_ev l h hl) ?_
  simp only [if_true]
  refine Ev.bind (bounds_bad y hi hy) ?_
  simp only [if_neg (show ¬ (3 : Int) = 0 by decide)]
  exact Ev.now _
theorem mem_ins {x : G} : ∀ {l : List G} {y : G}, x ∈ insR l y → x ∈ l ∨ peq x y = true
  | [], y, h => by
    rw [insR, List.mem_singleton] at h
    subst h
    exact .inr (peq_refl _)
  | h :: t, y, hx => by
    rw [insR] at hx
    split at hx
    · rcases List.mem_cons.1 hx with rfl | hx
      · exact .inr (peq_refl y)
      · exact .inl (List.mem_cons_of_mem _ hx)
    · split at hx
      · rcases List.mem_cons.1 hx with rfl | hx
        · exact .inr (peq_refl _)
        · exact .inl hx
      · rcases List.mem_cons.1 hx with rfl | hx
        · exact .inl List.mem_cons_self
        · rcases mem_ins hx with h1 | h1
          · exact .inl (List.mem_cons_of_mem _ h1)
          · exact .inr h1
theorem ins_keeps : ∀ {l : List G} {y x : G}, x ∈ l → ∃ x' ∈ insR l y, peq x' x = true ∧ (x.f4 = true → x'.f4 = true)
  | h :: t, y, x, hx => by
    rw [insR]
    split
    · rename_i hp
      rcases List.mem_cons.1 hx with rfl | hx
      · exact ⟨_, List.mem_cons_self, peq_symm hp, fun h4 => by simp [opt, h4]⟩
      · exact ⟨x, List.mem_cons_of_mem _ hx, peq_refl x, id⟩
    · split
      · exact ⟨x, List.mem_cons_of_mem _ hx, peq_refl x, id⟩
      · rcases List.mem_cons.1 hx with rfl | hx
        · exact ⟨_, List.mem_cons_self, peq_refl _, id⟩
        · obtain ⟨x', h1, h2⟩ := ins_keeps (y := y) hx
          exact ⟨x', List.mem_cons_of_mem _ h1, h2⟩
theorem ins_has : ∀ {l : List G} {y : G}, ∃ y' ∈ insR l y, peq y' y = true ∧ (y.f4 = true → y'.f4 = true)
  | [], y => ⟨y, by simp [insR], peq_refl y, id⟩
  | h :: t, y => by
    rw [insR]
    split
    · exact ⟨_, List.mem_cons_self, peq_refl y, fun h4 => by simp [opt, h4]⟩
    · split
      · exact ⟨y, List.mem_cons_self, peq_refl y, id⟩
      · obtain ⟨y', h1, h2⟩ := ins_has (l := t) (y := y)
        exact ⟨y', List.mem_cons_of_mem _ h1, h2⟩
theorem ins_len : ∀ (l : List G) (y : G), (insR l y).length ≤ l.length + 1
  | [], y => by simp [insR]
  | h :: t, y => by
    rw [insR]
    split
    · simp
    · split
      · simp
      · have := ins_len t y
        simp only [List.length_cons]
        omega
theorem ins_sorted : ∀ {l : List G} {y : G}, l.Pairwise plt → (insR l y).Pairwise plt
  | [], y, _ => by simp [insR]
  | h :: t, y, hs => by
    rw [List.pairwise_cons] at hs
    rw [insR]
    split
    · rename_i hp
      rw [List.pairwise_cons]
      exact ⟨fun x hx => by rw [plt_opt]; exact peq_plt (peq_symm hp) (hs.1 x hx), hs.2⟩
    · rename_i hp
      split
      · rename_i hb
        rw [List.pairwise_cons, List.pairwise_cons]
        refine ⟨fun x hx => ?_, hs.1, hs.2⟩
        rcases List.mem_cons.1 hx with rfl | hx
        · exact hb
        · exact plt_trans hb (hs.1 x hx)
      · rename_i hb
        rw [List.pairwise_cons]
        refine ⟨fun x hx => ?_, ins_sorted hs.2⟩
        rcases mem_ins hx with h1 | h1
        · exact hs.1 x h1
        · exact plt_peq (plt_total (by simpa using hp) hb) (peq_symm h1)
theorem bd_peq {x y : G} (h : peq x y = true) (hy : Bd y) : Bd x := by
  rw [peq_iff] at h
  obtain ⟨⟨a, b, c, d, e, f, g⟩, h1, h2⟩ := hy
  refine ⟨⟨by omega, by omega, by omega, by omega, by omega, by omega, by omega⟩, by omega, ?_⟩
  rw [h.1]
  omega
theorem good_ins {l : List G} (h : Good l) {y : G} (hy : Bd y) (hm : MayP l y.f0 y.f2 y.f3) : Good (insR l y) := by
  refine ⟨fun x hx => ?_, ins_sorted h.sorted, fun x hx => ?_⟩
  · rcases mem_ins hx with h1 | h1
    · exact h.bd x h1
    · exact bd_peq h1 hy
  · have hk : ∀ z ∈ l, ∃ z' ∈ insR l y, peq z' z = true ∧ (z.f4 = true → z'.f4 = true) := fun z hz => ins_keeps hz
    rcases mem_ins hx with h1 | h1
    · exact supp_mono hk (h.supp x h1) x (peq_refl x)
    · have h1' := h1
      rw [peq_iff] at h1'
      rcases hm with hm | ⟨g, hg, e1, e2, e3, e4⟩
      · exact .base x (by rw [h1'.2.2.1, h1'.1]; exact hm.symm)
      · obtain ⟨g', hg', hp, ho⟩ := hk g hg
        have hp' := hp
        rw [peq_iff] at hp'
        exact .step x g' hg' (supp_mono hk (h.supp g hg) g' hp) (ho e4) (by omega) (by omega) (by omega)
theorem rest_ins : ∀ {l : List G} {y : G}, (∀ x ∈ l, peq x y = false) → rest (insR l y) y = l
  | [], y, _ => by simp [insR, rest, peq_refl]
  | h :: t, y, hn => by
    have h0 := hn h List.mem_cons_self
    have ht : rest t y = t := by
      unfold rest
      rw [List.filter_eq_self]
      intro x hx
      simp [hn x (List.mem_cons_of_mem _ hx)]
    rw [insR, h0]
    simp only [Bool.false_eq_true, if_false]
    split
    · unfold rest at ht ⊢
      rw [List.filter_cons_of_neg (by simp [peq_refl]), List.filter_cons_of_pos (by simp [h0]), ht]
    · have ih := rest_ins (l := t) (y := y) (fun x hx => hn x (List.mem_cons_of_mem _ hx))
      unfold rest at ih ⊢
      rw [List.filter_cons_of_pos (by simp [h0]), ih]
/-! ### what raw things make -/
theorem picked_emod (a m : Int) (hm : 0 < m) (hm2 : m < 9223372036854775808) : chirographkeep_picked.f a m = some (a % m) := by
  unfold chirographkeep_picked.f
  rw [if_neg (by omega)]
  have h0 := Int.emod_nonneg a (show m ≠ 0 by omega)
  have h1 := Int.emod_lt_of_pos a hm
  have e : Int.tmod a m = a % m ∨ (Int.tmod a m = a % m - m ∧ 0 < a % m) := by
    rw [Int.tmod_eq_emod]
    split
    · left; omega
    · right
      have : ¬ m ∣ a := fun h => by simp_all
      have := Int.emod_pos_of_not_dvd this
      omega
  rcases e with e | ⟨e, hp⟩
  · rw [e, if_neg (by omega)]
  · rw [e, if_pos (by omega)]; unfold wrap64; congr 1; omega
theorem grant_ev (a b c : Int) (s : ByteArray) : ∃ y : G, chirographkeep_grantOf.f a b c s = some (y.f0, y.f1, y.f2, y.f3, y.f4) ∧ inb y ∧ y.f2 < 4 := by
  unfold chirographkeep_grantOf.f
  rw [picked_emod b 3 (by decide) (by decide), picked_emod c 3 (by decide) (by decide), picked_emod a 4 (by decide) (by decide), picked_emod _ 2 (by decide) (by decide), picked_emod _ 3 (by decide) (by decide)]
  simp only [Option.bind_some]
  refine ⟨⟨b % 3, c % 3, a % 4, wrap64 (1 + (s.size : Int) % 2), decide (wrap64 (b + c) % 3 > 0)⟩, rfl, ⟨?_, ?_, ?_, ?_, ?_, ?_, ?_⟩, ?_⟩
  all_goals (try rw [w64 _ (by omega)]) <;> (dsimp only) <;> omega
def GoodN (n : Nat) (l : List G) : Prop := Good l ∧ l.length ≤ n
theorem good_nil : Good [] := ⟨by simp, by simp, by simp⟩
/-- A gift, whatever comes of it. -/
theorem Give_any (l : List G) (h : Good l) (hl : l.length ≤ 96) (y : G) (hy : inb y) : ∃ r e, Ev (fun k => right_Give.f k l y.f0 y.f1 y.f2 y.f3 y.f4) (r, e) ∧ ((e = 0 ∧ Good r ∧ r.length ≤ l.length + 1) ∨ ((e = 3 ∨ e = 5))) := by
  by_cases hb : Bd y
  · by_cases hm : MayP l y.f0 y.f2 y.f3
    · exact ⟨_, _, Give_ok l h hl y hb hm, .inl ⟨rfl, good_ins h hb hm, ins_len l y⟩⟩
    · exact ⟨_, _, Give_no l h hl y hb hm, .inr (.inr rfl)⟩
  · exact ⟨_, _, Give_bad l h hl y hy hb, .inr (.inl rfl)⟩
theorem Take_any (l : List G) (h : Good l) (hl : l.length ≤ 96) (y : G) (hy : inb y) : ∃ r e, Ev (fun k => right_Take.f k l y.f0 y.f1 y.f2 y.f3 y.f4) (r, e) ∧ ((e = 0 ∧ Good r ∧ r.length ≤ l.length) ∨ ((e = 3 ∨ e = 5))) := by
  by_cases hb : Bd y
  · have := Take_ev l h hl y hb
    by_cases e : (rest l y).length = l.length
    · rw [if_pos e] at this
      exact ⟨_, _, this, .inr (.inr rfl)⟩
    · rw [if_neg e] at this
      refine ⟨_, _, this, .inl ⟨rfl, good_rest h y, ?_⟩⟩
      have h1 := List.length_filter_le (fun x => @decide (Supp (rest l y) x) (Classical.propDecidable _)) (rest l y)
      have h2 := rest_len l y
      unfold held
      omega
  · exact ⟨_, _, Take_bad l h hl y hy hb, .inr (.inl rfl)⟩
theorem rdR_at {l : List S40} {i : Nat} (h : i < l.length) : rd_T40 l (i : Int) = l[i] := by
  unfold rd_T40
  simp [List.getD_eq_getElem?_getD, List.getElem?_eq_getElem h]
theorem some_ev (l : List S40) (n : Nat) : chirographkeep_some.f l (n : Int) = some (l.take n) := by
  unfold chirographkeep_some.f mn
  split
  · rw [if_pos (by omega), if_pos (by omega), Int.toNat_natCast]
  · rw [if_pos (by omega), if_pos (by omega), Int.toNat_natCast, List.take_of_length_le (by omega), List.take_of_length_le (by omega)]
theorem rights_loop (t : List S40) (ht : t.length ≤ 30) (d : Nat) : ∀ (i : Nat) (g : List G), i + d = t.length → Good g → g.length ≤ i → ∃ r, Ev (fun k => chirographkeep_rights.l0 k g t (t.length : Int) (i : Int)) (r, true) ∧ Good r ∧ r.length ≤ 30 := by
  induction d with
  | zero =>
    intro i g hi hg hl
    refine ⟨g, Ev.step (f := fun k => (right_Check.f k g).bind fun t216 => some (g, t216 == 0)) (fun k => ?_) (Ev.bind (Check_ev g hg (by omega)) (Ev.now _)), hg, by omega⟩
    simp only [chirographkeep_rights.l0]
    rw [if_neg (by omega)]
  | succ d ih =>
    intro i g hi hg hl
    have hlt : i < t.length := by omega
    have hw : wrap64 ((i : Int) + 1) = ((i + 1 : Nat) : Int) := by rw [w64 _ (by omega)]; omega
    obtain ⟨y, hy, hin, _⟩ := grant_ev t[i].f0 t[i].f1 t[i].f2 t[i].f3
    obtain ⟨r1, e1, h1, c1⟩ := Give_any g hg (by omega) y hin
    obtain ⟨r2, e2, h2, c2⟩ := Take_any g hg (by omega) y hin
    have go : ∀ (r : List G) (e : Int), ((e = 0 ∧ Good r ∧ r.length ≤ g.length + 1) ∨ (e = 3 ∨ e = 5)) → ∃ q, Ev (fun k => chirographkeep_rights.j1 k g r e t (t.length : Int) (i : Int)) (q, true) ∧ Good q ∧ q.length ≤ 30 := by
      intro r e he
      rcases he with ⟨rfl, hgr, hlr⟩ | he
      · obtain ⟨q, hq, hgq⟩ := ih (i + 1) r (by omega) hgr (by omega)
        refine ⟨q, ?_, hgq⟩
        refine Ev.step (f := fun k => chirographkeep_rights.j2 k r 0 t (t.length : Int) (i : Int)) (fun k => by simp only [chirographkeep_rights.j1, if_true]) ?_
        refine Ev.step (f := fun k => chirographkeep_rights.j3 k r t (t.length : Int) (i : Int) false) (fun k => by simp only [chirographkeep_rights.j2, if_true]) ?_
        refine Ev.step (fun k => ?_) hq
        simp only [chirographkeep_rights.j3]
        rw [if_neg (by simp), hw]
      · obtain ⟨q, hq, hgq⟩ := ih (i + 1) g (by omega) hg (by omega)
        refine ⟨q, ?_, hgq⟩
        refine Ev.step (f := fun k => chirographkeep_rights.j2 k g e t (t.length : Int) (i : Int)) (fun k => by simp only [chirographkeep_rights.j1]; rw [if_neg (by omega)]) ?_
        refine Ev.step (f := fun k => chirographkeep_rights.j3 k g t (t.length : Int) (i : Int) false) (fun k => ?_) ?_
        · simp only [chirographkeep_rights.j2]
          rcases he with rfl | rfl <;> rfl
        · refine Ev.step (fun k => ?_) hq
          simp only [chirographkeep_rights.j3]
          rw [if_neg (by simp), hw]
    have body : ∀ (b : Bool), ∃ q, Ev (fun k => (right_Give.f k g y.f0 y.f1 y.f2 y.f3 y.f4).bind fun bt225 => if b = true then ((right_Take.f k g y.f0 y.f1 y.f2 y.f3 y.f4).bind fun bt230 => (chirographkeep_rights.j1 k g bt230.1 bt230.2 t (t.length : Int) (i : Int))) else (chirographkeep_rights.j1 k g bt225.1 bt225.2 t (t.length : Int) (i : Int))) (q, true) ∧ Good q ∧ q.length ≤ 30 := by
      intro b
      cases b with
      | true =>
        obtain ⟨q, hq, hgq⟩ := go r2 e2 (by rcases c2 with ⟨a, b, c⟩ | c; exact .inl ⟨a, b, by omega⟩; exact .inr c)
        exact ⟨q, Ev.bind h1 (by simp only [if_true]; exact Ev.bind h2 hq), hgq⟩
      | false =>
        obtain ⟨q, hq, hgq⟩ := go r1 e1 c1
        exact ⟨q, Ev.bind h1 (by simp only [Bool.false_eq_true, if_false]; exact hq), hgq⟩
    obtain ⟨q, hq, hgq⟩ := body (decide (t[i].f0 % 9 = 8))
    refine ⟨q, Ev.step (fun k => ?_) hq, hgq⟩
    simp only [chirographkeep_rights.l0]
    rw [if_pos (by omega), if_pos (by omega), if_pos (by omega), rdR_at hlt, hy]
    simp only [Option.bind_some, picked_emod t[i].f0 9 (by decide) (by decide), decide_eq_true_iff]
theorem rights_ev (l : List S40) : ∃ g, Ev (fun k => chirographkeep_rights.f k l) (g, true) ∧ Good g ∧ g.length ≤ 30 := by
  obtain ⟨r, hr, hg⟩ := rights_loop (l.take 30) (by rw [List.length_take]; omega) (l.take 30).length 0 [] (by omega) good_nil (by simp)
  refine ⟨r, Ev.congr (fun k => ?_) hr, hg⟩
  have e : chirographkeep_some.f l 30 = some (l.take 30) := some_ev l 30
  simp only [chirographkeep_rights.f, e, Option.bind_some]
  rfl

theorem tells_ev : Ev (fun k => chirographkeep_rightTells.f k) true := by
  have h0 : ow 0 = 0 := by rw [ow_eq _ (by decide)]; decide
  have hb : Bd ⟨0, 1, 0, 1, false⟩ := ⟨⟨by decide, by decide, by decide, by decide, by decide, by decide, .inl rfl⟩, by decide, by dsimp only; rw [h0]; decide⟩
  have hm : MayP [] (0 : Int) 0 1 := .inl h0
  have hg := good_ins good_nil hb hm
  refine Ev.bind (Give_ok [] good_nil (by decide) ⟨0, 1, 0, 1, false⟩ hb hm) ?_
  refine Ev.bind (Has_ev (insR [] ⟨0, 1, 0, 1, false⟩) hg (by decide) 1 0 1 (by decide) (by decide) (by decide) true (by simp only [true_iff]; exact .inr ⟨_, List.mem_cons_self, rfl, rfl, rfl⟩)) ?_
  exact Ev.now true
theorem rest_all {l : List G} {y : G} (e : (rest l y).length = l.length) : ∀ x ∈ l, peq x y = false := by
  intro x hx
  have h := (List.length_filter_eq_length_iff.1 e) x hx
  simpa using h
theorem rest_none {l : List G} {y : G} (e : ∀ x ∈ l, peq x y = false) : rest l y = l := by
  unfold rest
  rw [List.filter_eq_self]
  intro x hx
  rw [e x hx]
  rfl

theorem same_ev (l : List G) (hl : l.length ≤ 96) : Ev (fun k => chirographkeep_sameGrants.f k l l) true := by
  have loop : ∀ (d i : Nat), i + d = l.length → Ev (fun k => chirographkeep_sameGrants.l0 k l l (l.length : Int) (i : Int)) true := by
    intro d
    induction d with
    | zero =>
      intro i hi
      refine Ev.step (f := fun _ => some true) (fun k => ?_) (Ev.now _)
      simp only [chirographkeep_sameGrants.l0]
      rw [if_neg (by omega)]
    | succ d ih =>
      intro i hi
      have hlt : i < l.length := by omega
      have hw : wrap64 ((i : Int) + 1) = ((i + 1 : Nat) : Int) := by rw [w64 _ (by omega)]; omega
      refine Ev.step (fun k => ?_) (ih (i + 1) (by omega))
      simp only [chirographkeep_sameGrants.l0]
      rw [if_pos (by omega), if_pos (by omega), if_pos (by omega), if_pos (by omega), hw, if_neg (by simp)]
  refine Ev.congr (fun k => ?_) (loop l.length 0 (by omega))
  simp only [chirographkeep_sameGrants.f]
  rw [if_pos trivial]
  rfl

theorem supp_sub {l m : List G} (hm : ∀ x ∈ l, x ∈ m) {x : G} (h : Supp l x) : Supp m x := by
  induction h with
  | base x h => exact .base x h
  | step x y hy _ h4 h1 h2 h3 ih => exact .step x y (hm y hy) ih h4 h1 h2 h3
theorem supp_kept {l : List G} {b x : G} (h : Supp (rest l b) x) : Supp (rest (held l) b) x := by
  induction h with
  | base x h => exact .base x h
  | step x y hy hs h4 h1 h2 h3 ih =>
    have hy' := mem_rest.1 hy
    exact .step x y (mem_rest.2 ⟨mem_held.2 ⟨hy'.1, supp_sub (fun z hz => (mem_rest.1 hz).1) hs⟩, hy'.2⟩) ih h4 h1 h2 h3
theorem held_rest_held (l : List G) (b : G) : held (rest (held l) b) = held (rest l b) := by
  have h1 : held (rest (held l) b) = (rest (held l) b).filter fun x => @decide (Supp (rest l b) x) (Classical.propDecidable _) := by
    show List.filter _ _ = List.filter _ _
    apply List.filter_congr
    intro x _
    apply decide_eq_decide.2
    constructor
    · exact supp_sub (fun z hz => mem_rest.2 ⟨(mem_held.1 (mem_rest.1 hz).1).1, (mem_rest.1 hz).2⟩)
    · exact supp_kept
  rw [h1]
  show List.filter _ (List.filter _ (List.filter _ l)) = List.filter _ (List.filter _ l)
  rw [List.filter_filter, List.filter_filter, List.filter_filter]
  apply List.filter_congr
  intro x hx
  by_cases hs : Supp (rest l b) x
  · have h2 : Supp l x := supp_sub (fun z hz => (mem_rest.1 hz).1) hs
    simp [hs, h2]
  · simp [hs]
theorem rest_comm (l : List G) (a b : G) : rest (rest l a) b = rest (rest l b) a := by
  unfold rest
  rw [List.filter_filter, List.filter_filter]
  apply List.filter_congr
  intro x _
  exact Bool.and_comm _ _
theorem then_ev (l : List G) (h : Good l) (hl : l.length ≤ 96) (y : G) (hy : Bd y) : Ev (fun k => chirographkeep_TakesSwap_1.f k l y.f0 y.f1 y.f2 y.f3 y.f4) (held (rest l y)) := by
  have ht := Take_ev l h hl y hy
  by_cases e : (rest l y).length = l.length
  · rw [if_pos e] at ht
    rw [rest_none (rest_all e), held_all h.supp]
    exact Ev.bind ht (Ev.now _)
  · rw [if_neg e] at ht
    exact Ev.bind ht (Ev.now _)
theorem held_short (l : List G) (y : G) : (held (rest l y)).length ≤ l.length := by
  have h1 := List.length_filter_le (fun x => @decide (Supp (rest l y) x) (Classical.propDecidable _)) (rest l y)
  have h2 := rest_len l y
  unfold held
  omega
theorem TakesSwap : chirographkeep_TakesSwap.Pure := by
  intro l a b
  intros
  apply Ev.rounds
  obtain ⟨g, hg, hgood, hlen⟩ := rights_ev l
  refine Ev.bind hg ?_
  by_cases h0 : (g.length : Int) = 0
  · simp only [if_pos h0, if_true]
    exact Ev.bind tells_ev (Ev.now _)
  · simp only [if_neg h0]
    simp only [picked_emod a (g.length : Int) (by omega) (by omega), picked_emod b (g.length : Int) (by omega) (by omega), Option.bind_some]
    have hm0 : 0 ≤ a % (g.length : Int) := Int.emod_nonneg _ (by omega)
    have hm1 : a % (g.length : Int) < (g.length : Int) := Int.emod_lt_of_pos _ (by omega)
    have hn0 : 0 ≤ b % (g.length : Int) := Int.emod_nonneg _ (by omega)
    have hn1 : b % (g.length : Int) < (g.length : Int) := Int.emod_lt_of_pos _ (by omega)
    obtain ⟨i, hi⟩ : ∃ i : Nat, a % (g.length : Int) = (i : Int) := ⟨(a % (g.length : Int)).toNat, by omega⟩
    obtain ⟨j, hj⟩ : ∃ j : Nat, b % (g.length : Int) = (j : Int) := ⟨(b % (g.length : Int)).toNat, by omega⟩
    have hlt : i < g.length := by omega
    have hlj : j < g.length := by omega
    simp only [if_pos hm0, if_pos hm1, if_pos hn0, if_pos hn1]
    rw [hi, hj]
    simp only [rdG_at hlt, rdG_at hlj]
    have hx : g[i] ∈ g := List.getElem_mem hlt
    have hy : g[j] ∈ g := List.getElem_mem hlj
    generalize g[i] = x at hx ⊢
    generalize g[j] = y at hy ⊢
    refine Ev.bind tells_ev ?_
    simp only [if_true]
    have hbx := hgood.bd x hx
    have hby := hgood.bd y hy
    have l1 := held_short g x
    have l2 := held_short g y
    have l3 := held_short (held (rest g x)) y
    refine Ev.bind (then_ev g hgood (by omega) x hbx) ?_
    refine Ev.bind (then_ev _ (good_rest hgood x) (by omega) y hby) ?_
    refine Ev.bind (then_ev g hgood (by omega) y hby) ?_
    refine Ev.bind (then_ev _ (good_rest hgood y) (by omega) x hbx) ?_
    rw [held_rest_held, held_rest_held, rest_comm g y x]
    rw [held_rest_held] at l3
    exact Ev.bind (same_ev _ (by omega)) (Ev.now _)

end Go.Proofs.Ytblnkfnafbmgnaa.Pure
