-- WRITTEN BY mkprint.py, a program of this session (out of the translation). Lean checks it.
import Derived.Test.YtblnkfnafbmgnaaQTakesSwapx0
import Derived.Test.YtblnkfnafbmgnaaQTakesSwapx3
namespace Go.Proofs.Ytblnkfnafbmgnaa.QTakesSwap
open Go.RowKit Go.Proofs.Ytblnkfnafbmgnaa.VPrintWords Go.Proofs.Ytblnkfnafbmgnaa.VPrintLast Go.Proofs.Ytblnkfnafbmgnaa.VPrintMore
attribute [local go_sem] max2_int min2_int max_two min_two max_three min_three max_four min_four   -- for this text's walks alone
set_option linter.unusedVariables false
set_option linter.unusedSimpArgs false

/-! ### right_held: function 24 -/
mutual
def right_held.l0 : Nat → List (S28) → List Int → Option ((List (S28)))
 | 0, _, _ => none
 | k + 1, x0, x3 => right_held.l1 k x0 x3 x0 (x0.length : Int) 0
def right_held.l1 : Nat → List (S28) → List Int → List (S28) → Int → Int → Option ((List (S28)))
 | 0, _, _, _, _, _ => none
 | k + 1, x0, x3, x14, x15, x16 => if x16 < x15 then (if 0 ≤ x16 then (if x16 < (x14.length : Int) then (if x16 < (x3.length : Int) then (if (rd x3 x16) = 1 then (right_held.l1 k x0 x3 x14 x15 (wrap64 (x16 + 1))) else ((right_owner.f ((rd_T28 x14 x16).f2)).bind fun t111 => (if ((rd_T28 x14 x16).f0) = t111 then (right_held.l0 k x0 (x3.set (x16 : Int).toNat 1)) else (right_held.l2 k x0 x3 x16 x14 x15 x16 x0 (x0.length : Int) 0 ((rd_T28 x14 x16).f0) ((rd_T28 x14 x16).f1) ((rd_T28 x14 x16).f2) ((rd_T28 x14 x16).f3) ((rd_T28 x14 x16).f4))))) else (none)) else (none)) else (none)) else (right_held.l3 k x3 ([] : List (S28)) x0 (x0.length : Int) 0)
def right_held.l2 : Nat → List (S28) → List Int → Int → List (S28) → Int → Int → List (S28) → Int → Int → Int → Int → Int → Int → Bool → Option ((List (S28)))
 | 0, _, _, _, _, _, _, _, _, _, _, _, _, _, _ => none
 | k + 1, x0, x3, x4, x14, x15, x16, x35, x36, x37, x110000, x110001, x110002, x110003, x110004 => if x37 < x36 then (if 0 ≤ x37 then (if x37 < (x35.length : Int) then (if x37 < (x3.length : Int) then (if (rd x3 x37) = 1 then (if (rd_T28 x35 x37).f4 = true then (if ((rd_T28 x35 x37).f1) = x110000 then (if ((rd_T28 x35 x37).f2) = x110002 then (right_held.j3 k x0 x3 x4 x14 x15 x16 x35 x36 x37 (((rd_T28 x35 x37).f3) == x110003) x110000 x110001 x110002 x110003 x110004) else (right_held.j3 k x0 x3 x4 x14 x15 x16 x35 x36 x37 false x110000 x110001 x110002 x110003 x110004)) else (right_held.j3 k x0 x3 x4 x14 x15 x16 x35 x36 x37 false x110000 x110001 x110002 x110003 x110004)) else (right_held.j3 k x0 x3 x4 x14 x15 x16 x35 x36 x37 false x110000 x110001 x110002 x110003 x110004)) else (right_held.j3 k x0 x3 x4 x14 x15 x16 x35 x36 x37 false x110000 x110001 x110002 x110003 x110004)) else (none)) else (none)) else (none)) else (right_held.l1 k x0 x3 x14 x15 (wrap64 (x16 + 1)))
def right_held.j3 : Nat → List (S28) → List Int → Int → List (S28) → Int → Int → List (S28) → Int → Int → Bool → Int → Int → Int → Int → Bool → Option ((List (S28)))
 | 0, _, _, _, _, _, _, _, _, _, _, _, _, _, _, _ => none
 | k + 1, x0, x3, x4, x14, x15, x16, x35, x36, x37, x71, x110000, x110001, x110002, x110003, x110004 => if x71 = true then (if 0 ≤ x4 then (if x4 < (x3.length : Int) then (right_held.l0 k x0 (x3.set (x4 : Int).toNat 1)) else (none)) else (none)) else (right_held.l2 k x0 x3 x4 x14 x15 x16 x35 x36 (wrap64 (x37 + 1)) x110000 x110001 x110002 x110003 x110004)
def right_held.l3 : Nat → List Int → List (S28) → List (S28) → Int → Int → Option ((List (S28)))
 | 0, _, _, _, _, _ => none
 | k + 1, x3, x8, x77, x78, x79 => if x79 < x78 then (if 0 ≤ x79 then (if x79 < (x77.length : Int) then (if x79 < (x3.length : Int) then (if (rd x3 x79) = 1 then (if x8.length < 3518437208883 then (right_held.l3 k x3 (x8 ++ [(⟨(rd_T28 x77 x79).f0, (rd_T28 x77 x79).f1, (rd_T28 x77 x79).f2, (rd_T28 x77 x79).f3, (rd_T28 x77 x79).f4⟩ : S28)]) x77 x78 (wrap64 (x79 + 1))) else (none)) else (right_held.l3 k x3 x8 x77 x78 (wrap64 (x79 + 1)))) else (none)) else (none)) else (none)) else (some x8)
end
def right_held.f (k : Nat) (l0 : List (S28)) : Option ((List (S28))) := if 0 ≤ (l0.length : Int) then (if ((l0.length : Int) : Int).toNat ≤ 35184372088832 then (right_held.l0 k l0 (List.replicate ((l0.length : Int) : Int).toNat 0)) else (none)) else (none)
theorem right_held.mono_l : ∀ k, (∀ y0 y1, LeO (right_held.l0 k y0 y1) (right_held.l0 (k + 1) y0 y1)) ∧ (∀ y0 y1 y2 y3 y4, LeO (right_held.l1 k y0 y1 y2 y3 y4) (right_held.l1 (k + 1) y0 y1 y2 y3 y4)) ∧ (∀ y0 y1 y2 y3 y4 y5 y6 y7 y8 y9 y10 y11 y12 y13, LeO (right_held.l2 k y0 y1 y2 y3 y4 y5 y6 y7 y8 y9 y10 y11 y12 y13) (right_held.l2 (k + 1) y0 y1 y2 y3 y4 y5 y6 y7 y8 y9 y10 y11 y12 y13)) ∧ (∀ y0 y1 y2 y3 y4 y5 y6 y7 y8 y9 y10 y11 y12 y13 y14, LeO (right_held.j3 k y0 y1 y2 y3 y4 y5 y6 y7 y8 y9 y10 y11 y12 y13 y14) (right_held.j3 (k + 1) y0 y1 y2 y3 y4 y5 y6 y7 y8 y9 y10 y11 y12 y13 y14)) ∧ (∀ y0 y1 y2 y3 y4, LeO (right_held.l3 k y0 y1 y2 y3 y4) (right_held.l3 (k + 1) y0 y1 y2 y3 y4))
 | 0 => ⟨fun _ _ r h => by simp [right_held.l0] at h, fun _ _ _ _ _ r h => by simp [right_held.l1] at h, fun _ _ _ _ _ _ _ _ _ _ _ _ _ _ r h => by simp [right_held.l2] at h, fun _ _ _ _ _ _ _ _ _ _ _ _ _ _ _ r h => by simp [right_held.j3] at h, fun _ _ _ _ _ r h => by simp [right_held.l3] at h⟩
 | k + 1 => by
  obtain ⟨ih0, ih1, ih2, ih3, ih4⟩ := right_held.mono_l k
  refine ⟨?_, ?_, ?_, ?_, ?_⟩
  ·intro y0 y1
   unfold right_held.l0
   repeat' first
   | (with_reducible exact ih0 _ _)
   | (with_reducible exact ih1 _ _ _ _ _)
   | (with_reducible exact ih2 _ _ _ _ _ _ _ _ _ _ _ _ _ _)
   | (with_reducible exact ih3 _ _ _ _ _ _ _ _ _ _ _ _ _ _ _)
   | (with_reducible exact ih4 _ _ _ _ _)
   | (with_reducible exact LeO.refl _)
   | (with_reducible exact LeO.none _)
   | (with_reducible refine LeO.ite ?_ ?_)
   | (with_reducible refine LeO.bind ?_ (fun _ => ?_))
   | exact ih0 _ _
   | exact ih1 _ _ _ _ _
   | exact ih2 _ _ _ _ _ _ _ _ _ _ _ _ _ _
   | exact ih3 _ _ _ _ _ _ _ _ _ _ _ _ _ _ _
   | exact ih4 _ _ _ _ _
   | exact LeO.none _
   | refine LeO.ite ?_ ?_
   | refine LeO.bind ?_ (fun _ => ?_)
  ·intro y0 y1 y2 y3 y4
   unfold right_held.l1
   repeat' first
   | (with_reducible exact ih0 _ _)
   | (with_reducible exact ih1 _ _ _ _ _)
   | (with_reducible exact ih2 _ _ _ _ _ _ _ _ _ _ _ _ _ _)
   | (with_reducible exact ih3 _ _ _ _ _ _ _ _ _ _ _ _ _ _ _)
   | (with_reducible exact ih4 _ _ _ _ _)
   | (with_reducible exact LeO.refl _)
   | (with_reducible exact LeO.none _)
   | (with_reducible refine LeO.ite ?_ ?_)
   | (with_reducible refine LeO.bind ?_ (fun _ => ?_))
   | exact ih0 _ _
   | exact ih1 _ _ _ _ _
   | exact ih2 _ _ _ _ _ _ _ _ _ _ _ _ _ _
   | exact ih3 _ _ _ _ _ _ _ _ _ _ _ _ _ _ _
   | exact ih4 _ _ _ _ _
   | exact LeO.none _
   | refine LeO.ite ?_ ?_
   | refine LeO.bind ?_ (fun _ => ?_)
  ·intro y0 y1 y2 y3 y4 y5 y6 y7 y8 y9 y10 y11 y12 y13
   unfold right_held.l2
   repeat' first
   | (with_reducible exact ih0 _ _)
   | (with_reducible exact ih1 _ _ _ _ _)
   | (with_reducible exact ih2 _ _ _ _ _ _ _ _ _ _ _ _ _ _)
   | (with_reducible exact ih3 _ _ _ _ _ _ _ _ _ _ _ _ _ _ _)
   | (with_reducible exact ih4 _ _ _ _ _)
   | (with_reducible exact LeO.refl _)
   | (with_reducible exact LeO.none _)
   | (with_reducible refine LeO.ite ?_ ?_)
   | (with_reducible refine LeO.bind ?_ (fun _ => ?_))
   | exact ih0 _ _
   | exact ih1 _ _ _ _ _
   | exact ih2 _ _ _ _ _ _ _ _ _ _ _ _ _ _
   | exact ih3 _ _ _ _ _ _ _ _ _ _ _ _ _ _ _
   | exact ih4 _ _ _ _ _
   | exact LeO.none _
   | refine LeO.ite ?_ ?_
   | refine LeO.bind ?_ (fun _ => ?_)
  ·intro y0 y1 y2 y3 y4 y5 y6 y7 y8 y9 y10 y11 y12 y13 y14
   unfold right_held.j3
   repeat' first
   | (with_reducible exact ih0 _ _)
   | (with_reducible exact ih1 _ _ _ _ _)
   | (with_reducible exact ih2 _ _ _ _ _ _ _ _ _ _ _ _ _ _)
   | (with_reducible exact ih3 _ _ _ _ _ _ _ _ _ _ _ _ _ _ _)
   | (with_reducible exact ih4 _ _ _ _ _)
   | (with_reducible exact LeO.refl _)
   | (with_reducible exact LeO.none _)
   | (with_reducible refine LeO.ite ?_ ?_)
   | (with_reducible refine LeO.bind ?_ (fun _ => ?_))
   | exact ih0 _ _
   | exact ih1 _ _ _ _ _
   | exact ih2 _ _ _ _ _ _ _ _ _ _ _ _ _ _
   | exact ih3 _ _ _ _ _ _ _ _ _ _ _ _ _ _ _
   | exact ih4 _ _ _ _ _
   | exact LeO.none _
   | refine LeO.ite ?_ ?_
   | refine LeO.bind ?_ (fun _ => ?_)
  ·intro y0 y1 y2 y3 y4
   unfold right_held.l3
   repeat' first
   | (with_reducible exact ih0 _ _)
   | (with_reducible exact ih1 _ _ _ _ _)
   | (with_reducible exact ih2 _ _ _ _ _ _ _ _ _ _ _ _ _ _)
   | (with_reducible exact ih3 _ _ _ _ _ _ _ _ _ _ _ _ _ _ _)
   | (with_reducible exact ih4 _ _ _ _ _)
   | (with_reducible exact LeO.refl _)
   | (with_reducible exact LeO.none _)
   | (with_reducible refine LeO.ite ?_ ?_)
   | (with_reducible refine LeO.bind ?_ (fun _ => ?_))
   | exact ih0 _ _
   | exact ih1 _ _ _ _ _
   | exact ih2 _ _ _ _ _ _ _ _ _ _ _ _ _ _
   | exact ih3 _ _ _ _ _ _ _ _ _ _ _ _ _ _ _
   | exact ih4 _ _ _ _ _
   | exact LeO.none _
   | refine LeO.ite ?_ ?_
   | refine LeO.bind ?_ (fun _ => ?_)
theorem right_held.mono : ∀ a0 k, LeO (right_held.f k a0) (right_held.f (k + 1) a0) := by
 intro a0 k
 obtain ⟨ih0, ih1, ih2, ih3, ih4⟩ := right_held.mono_l k
 unfold right_held.f
 repeat' first
   | (with_reducible exact ih0 _ _)
   | (with_reducible exact ih1 _ _ _ _ _)
   | (with_reducible exact ih2 _ _ _ _ _ _ _ _ _ _ _ _ _ _)
   | (with_reducible exact ih3 _ _ _ _ _ _ _ _ _ _ _ _ _ _ _)
   | (with_reducible exact ih4 _ _ _ _ _)
   | (with_reducible exact LeO.refl _)
   | (with_reducible exact LeO.none _)
   | (with_reducible refine LeO.ite ?_ ?_)
   | (with_reducible refine LeO.bind ?_ (fun _ => ?_))
   | exact ih0 _ _
   | exact ih1 _ _ _ _ _
   | exact ih2 _ _ _ _ _ _ _ _ _ _ _ _ _ _
   | exact ih3 _ _ _ _ _ _ _ _ _ _ _ _ _ _ _
   | exact ih4 _ _ _ _ _
   | exact LeO.none _
   | refine LeO.ite ?_ ?_
   | refine LeO.bind ?_ (fun _ => ?_)
theorem put_u {a : Act} {F : (Nat → Value) → Act} {R : (Nat → Value) → Prop} (h : a = F (fun i => a.tmps.getD i undef)) (hr : R (fun i => a.tmps.getD i undef)) : ∃ u, a = F u ∧ R u := ⟨_, h, hr⟩
theorem wp_scope_ghost {P : Program} {a : Act} {w : World} {Q : Exit → Act → World → Prop} {c rest : Code} (l : Nat) (J : Nat → Act → World → Prop) (hf : findLabel c l = some (Code.skip.seq rest))
  (pass : ∀ n a w, J n a w → rest.wp P (Exit.jump l (fun a' w' => ∃ m, m < n ∧ J m a' w') Q) a w)
  (first : (∀ n a w, J n a w → rest.wp P (Exit.jump l (fun a' w' => ∃ m, J m a' w') Q) a w) → c.wp P (Exit.jump l (fun a' w' => ∃ m, J m a' w') Q) a w) : (Code.scope c).wp P Q a w := by
 have hpass : ∀ n a w, J n a w → rest.wp P (Exit.jump l (fun a' w' => ∃ m, J m a' w') Q) a w := fun n a w hJ =>
  wp_mono (pass n a w hJ) (fun e a' w' h => by
   cases e with
   | goto l' => obtain ⟨h1, m, _, h2⟩ := h; exact ⟨h1, m, h2⟩
   | normal => exact h
   | exit id => exact h
   | ret => exact h
   | panic ch => exact h
   | outgrown => exact h)
 have hfirst := first hpass
 clear first hpass
 intro b k cs
 have hg : gotoIn l (.inScope c :: k) = some (.code (Code.skip.seq rest) :: .inScope c :: k) := by simp [gotoIn, hf]
 have key : ∀ n a w, J n a w → ∃ e a' w', Q e a' w' ∧ Arrives P (lone (b.at a (.code (Code.skip.seq rest) :: .inScope c :: k)) cs w) b k cs e a' w' := by
  intro n
  induction n using Nat.strongRecOn with
  | _ n ih =>
   intro a w hJ
   obtain ⟨e, a₁, w₁, hq, harr⟩ := (show (Code.skip.seq rest).wp P (Exit.jump l (fun a' w' => ∃ m, m < n ∧ J m a' w') Q) a w from wp_seq (wp_skip (pass n a w hJ))) b (.inScope c :: k) cs
   cases e with
   | normal => exact ⟨.normal, a₁, w₁, hq, Steps.trans harr (.one step_inScope)⟩
   | exit id => exact ⟨.exit id, a₁, w₁, hq, fun k' hk => harr k' (by simp [exitTo, hk])⟩
   | goto l' =>
    obtain ⟨rfl, m, hlt, hJ'⟩ := hq
    obtain ⟨e₂, a₂, w₂, hq₂, harr₂⟩ := ih m hlt a₁ w₁ hJ'
    exact ⟨e₂, a₂, w₂, hq₂, .of_steps (harr _ hg) harr₂⟩
   | ret => exact ⟨_, a₁, w₁, hq, harr⟩
   | panic ch => exact ⟨_, a₁, w₁, hq, harr⟩
   | outgrown => exact ⟨_, a₁, w₁, hq, harr⟩
 obtain ⟨e, a₁, w₁, hq, harr⟩ := hfirst b (.inScope c :: k) cs
 cases e with
 | normal => exact ⟨.normal, a₁, w₁, hq, .head step_scope (Steps.trans harr (.one step_inScope))⟩
 | exit id => exact ⟨.exit id, a₁, w₁, hq, fun k' hk => .head step_scope (harr k' (by simp [exitTo, hk]))⟩
 | goto l' =>
  obtain ⟨rfl, m, hJ'⟩ := hq
  obtain ⟨e₂, a₂, w₂, hq₂, harr₂⟩ := key m a₁ w₁ hJ'
  exact ⟨e₂, a₂, w₂, hq₂, .of_steps (.head step_scope (harr _ hg)) harr₂⟩
 | ret => exact ⟨_, a₁, w₁, hq, .of_steps (.one step_scope) harr⟩
 | panic ch => exact ⟨_, a₁, w₁, hq, .of_steps (.one step_scope) harr⟩
 | outgrown => exact ⟨_, a₁, w₁, hq, .of_steps (.one step_scope) harr⟩
set_option maxHeartbeats 8000000 in
set_option maxRecDepth 100000 in
theorem right_held.calls (k : Nat) (A0 : Option Addr) (c0 : Nat) (l0 : List (S28)) (r : List (S28)) (w : World) (hr0 : Kd.C k28 w A0 l0.length l0) (hc0 : l0.length ≤ c0) (h : right_held.f k l0 = some r) :
  Calls Try.prog 24 #[.slice A0 l0.length c0] w fun e w' => ∃ v0_ : Value, e = .returned (v0_) ∧ Kd.R k28 28 w' w.heap.size (fun _ => True) v0_ r ∧ Below w.heap.size w w' := by
 have hu28 := Try.underlying28
 have HR0 := Aside0.mk hr0
 have HC0 := Aside0.mk hc0
 clear hr0 hc0
 have HB := Aside0.mk (Below.refl w.heap.size w)
 have H : (if 0 ≤ (l0.length : Int) then (if ((l0.length : Int) : Int).toNat ≤ 35184372088832 then (right_held.l0 k l0 (List.replicate ((l0.length : Int) : Int).toNat 0)) else (none)) else (none)) = some r := h
 clear h
 by_cases c2 : 0 ≤ (l0.length : Int)
 ·rw [if_pos c2] at H
  have c2b0 := eq_true c2
  have c2b1 : decide (0 ≤ (l0.length : Int)) = true := decide_eq_true c2
  clear c2
  by_cases c3 : ((l0.length : Int) : Int).toNat ≤ 35184372088832
  ·rw [if_pos c3] at H
   have c3b0 := eq_true c3
   have c3b1 : decide (((l0.length : Int) : Int).toNat ≤ 35184372088832) = true := decide_eq_true c3
   clear c3
   obtain ⟨y105, hy105⟩ : ∃ y_ : List Int, y_ = (List.replicate ((l0.length : Int) : Int).toNat 0) := ⟨_, rfl⟩
   replace H : (right_held.l0 k l0 y105) = some r := by first | (rw [hy105]; with_reducible exact H) | (have H2_ := (Option.bind_some _ _).symm.trans H; rw [hy105]; with_reducible exact H2_) | (have H2_ := (Option.bind_some _ _).symm.trans H; with_reducible exact H2_) | with_reducible exact H | (rw [hy105]; exact H) | exact H
   have Ny105 := Aside0.mk hy105
   clear hy105
   have H' := Aside0.mk H
   clear H
   go_enter Try.func24, Try.ntmps24
   go_wp2
   refine wp_scope_ghost 0 (fun gk a' wr => ∃ (v106 : Value) (x3_1 : List Int), ∃ u_ : Nat → Value, a' = { tmps := #[.slice A0 l0.length c0, u_ 1, u_ 2, v106, u_ 4, u_ 5, u_ 6, u_ 7, u_ 8, u_ 9, u_ 10, .slice A0 l0.length c0, .int .i64 (l0.length : Int), v106, u_ 14, u_ 15, u_ 16, u_ 17, u_ 18, u_ 19, u_ 20, u_ 21, u_ 22, u_ 23, u_ 24, u_ 25, u_ 26, u_ 27, u_ 28, u_ 29, u_ 30, u_ 31, u_ 32, u_ 33, u_ 34, u_ 35, u_ 36, u_ 37, u_ 38, u_ 39, u_ 40, u_ 41, u_ 42, u_ 43, u_ 44, u_ 45, u_ 46, u_ 47, u_ 48, u_ 49, u_ 50, u_ 51, u_ 52, u_ 53, u_ 54, u_ 55, u_ 56, u_ 57, u_ 58, u_ 59, u_ 60, u_ 61, u_ 62, u_ 63, u_ 64, u_ 65, u_ 66, u_ 67, u_ 68, u_ 69, u_ 70, u_ 71, u_ 72, u_ 73, u_ 74, u_ 75, u_ 76, u_ 77, u_ 78, u_ 79, u_ 80, u_ 81, u_ 82, u_ 83, u_ 84, u_ 85, u_ 86, u_ 87, u_ 88, u_ 89, u_ 90, u_ 91, u_ 92, u_ 93, u_ 94], defers := [] } ∧ Aside0 (right_held.l0 gk l0 x3_1 = some r) ∧ Aside0 (gk ≤ k) ∧ Aside0 (Kd.R (Kd.int .i64) 3 wr w.heap.size (fun _ => True) v106 x3_1) ∧ Aside0 (Below w.heap.size w wr)) rfl ?_ ?_
   ·intro gk aq wr hrel
    clear H'
    try clear c2
    try clear c2b0
    try clear c2b1
    try clear p2
    try clear c3
    try clear c3b0
    try clear c3b1
    clear HB
    obtain ⟨v106, x3_1, u_, rfl, HA, HK1, HO_3, HB⟩ := hrel
    cases gk with
    | zero => exact absurd HA.out (by simp [right_held.l0])
    | succ k1 =>
     have H := HA.out
     clear HA
     simp only [right_held.l0] at H
     have H' := Aside0.mk H
     clear H
     go_wp2
     repeat (go_quiet (fail); try go_wp2)
     go_loopg [16] k1 (fun kq v16 w' => ∃ (x3_2 : List Int) (x16_2 : Int), v16 = .int .i64 x16_2 ∧ Aside0 (right_held.l1 kq l0 x3_2 l0 (l0.length : Int) x16_2 = some r) ∧ Aside0 (kq ≤ k1) ∧ Aside0 (Kd.R (Kd.int .i64) 3 w' w.heap.size (fun _ => True) v106 x3_2) ∧ Aside0 (Below w.heap.size w w'))
     case atStart => exact ⟨(x3_1), (0), (by first | rfl | (simp; done) | (simp [*]; done)), H', ⟨Nat.le_refl _⟩, ⟨by (with_reducible repeat (first | apply Kd.R_alloc | apply Kd.R_drewN | apply Kd.R_drew)); exact HO_3.out⟩, ⟨by repeat (first | (with_reducible first | exact HB.out | apply below_alloc | apply pw_below_drewN | apply below_drew1) | exact HB.out)⟩⟩
     case round =>
      clear H'
      try clear c2
      try clear c2b0
      try clear c2b1
      try clear p2
      try clear c3
      try clear c3b0
      try clear c3b1
      try clear p2
      obtain ⟨x3_2, x16_2, rfl, HA, HK2, HO_3, HB⟩ := hrel
      cases gk with
      | zero => exact absurd HA.out (by simp [right_held.l1])
      | succ k2 =>
       have H := HA.out
       clear HA
       simp only [right_held.l1] at H
       by_cases c6 : x16_2 < (l0.length : Int)
       ·rw [if_pos c6] at H
        have c6b0 : decide (x16_2 < (l0.length : Int)) = true := decide_eq_true c6
        clear c6
        by_cases c7 : 0 ≤ x16_2
        ·rw [if_pos c7] at H
         have c7b0 : decide (0 ≤ x16_2) = true := decide_eq_true c7
         clear c7
         by_cases c8 : x16_2 < (l0.length : Int)
         ·rw [if_pos c8] at H
          have c8b0 : decide (x16_2 < (l0.length : Int)) = true := decide_eq_true c8
          clear c8
          by_cases c9 : x16_2 < (x3_2.length : Int)
          ·rw [if_pos c9] at H
           have c9b0 : decide (x16_2 < (x3_2.length : Int)) = true := decide_eq_true c9
           clear c9
           by_cases c10 : (rd x3_2 x16_2) = 1
           ·rw [if_pos c10] at H
            have c10b0 : ((rd x3_2 x16_2) == 1) = true := beq_iff_eq.mpr c10
            have c10b1 : ((rd x3_2 x16_2) != 1) = false := bne_eq_false_iff_eq.mpr c10
            clear c10
            have H' := Aside0.mk H
            clear H
            have p108 : 0 ≤ (x16_2 : Int) := of_decide_eq_true (by first | (with_reducible assumption) | assumption)
            have q108 : x16_2 < (l0.length : Int) := of_decide_eq_true (by first | (with_reducible assumption) | assumption)
            obtain ⟨ad108, e108, hx108_0, hx108_1, hx108_2, hx108_3, hx108_4⟩ := at_T28 HR0.out x16_2 p108 q108
            cases e108
            replace hx108_0 := (HB.out.cell (World.block_lt_of_cell? w _ hx108_0)).trans hx108_0
            replace hx108_1 := (HB.out.cell (World.block_lt_of_cell? w _ hx108_1)).trans hx108_1
            replace hx108_2 := (HB.out.cell (World.block_lt_of_cell? w _ hx108_2)).trans hx108_2
            replace hx108_3 := (HB.out.cell (World.block_lt_of_cell? w _ hx108_3)).trans hx108_3
            replace hx108_4 := (HB.out.cell (World.block_lt_of_cell? w _ hx108_4)).trans hx108_4
            replace p108 := eq_true p108
            replace q108 := eq_true q108
            go_wp2_with (first | ((with_reducible refine gate_dst (N := 5) rfl ?_); refine box_event ?hg (N := 5) ?hd (cs := #[.int .i64 0, .int .i64 0, .int .i64 0, .int .i64 0, .bool false]) (t := 28) ?hr ?_; (case hd => rfl); (case hg => rfl); (case hr => first | (go_simp; done) | (go_simp; rfl)); intro gb109 hg w11 hbox hb; have n0_ := Aside0.mk (Kd.R_below (by (with_reducible repeat (first | apply Kd.R_alloc | apply Kd.R_drewN | apply Kd.R_drew)); exact HO_3.out) hb); have n1_ := Aside0.mk (below_step (by repeat (first | (with_reducible first | exact HB.out | apply below_alloc | apply pw_below_drewN | apply below_drew1) | exact HB.out)) hb); have n2_ := Aside0.mk (hbox); have n3_ := Aside0.mk ((by rw [hg]; exact (below_size (by repeat (first | (with_reducible first | exact HB.out | apply below_alloc | apply pw_below_drewN | apply below_drew1) | exact HB.out))) : w.heap.size ≤ gb109)); have n4_ := Aside0.mk ((by rw [hg]; exact (below_size (by repeat (first | (with_reducible first | exact HB.out | apply below_alloc | apply pw_below_drewN | apply below_drew1) | exact HB.out))) : w.heap.size ≤ gb109)); clear HO_3; clear HB; have HO_3 := n0_; have HB := n1_; have BK109 := n2_; have GW109 := n3_; have GE109 := n4_; clear n0_ n1_ n2_ n3_ n4_; clear hb hbox hg; have hcz12_0 : w11.cell? ⟨gb109, 0, none⟩ = some (.int .i64 0) := (blk_cell BK109.out 0).trans rfl; have hcz12_1 : w11.cell? ⟨gb109, 1, none⟩ = some (.int .i64 0) := (blk_cell BK109.out 1).trans rfl; have hcz12_2 : w11.cell? ⟨gb109, 2, none⟩ = some (.int .i64 0) := (blk_cell BK109.out 2).trans rfl; have hcz12_3 : w11.cell? ⟨gb109, 3, none⟩ = some (.int .i64 0) := (blk_cell BK109.out 3).trans rfl; have hcz12_4 : w11.cell? ⟨gb109, 4, none⟩ = some (.bool false) := (blk_cell BK109.out 4).trans rfl; have hfz12_0 := blk_frozen BK109.out 0; have hfz12_1 := blk_frozen BK109.out 1; have hfz12_2 := blk_frozen BK109.out 2; have hfz12_3 := blk_frozen BK109.out 3; have hfz12_4 := blk_frozen BK109.out 4; obtain ⟨Ao13, co13, eo13⟩ := Kd.R_slice HO_3.out; subst eo13; have p110 : 0 ≤ (x16_2 : Int) := of_decide_eq_true (by first | (with_reducible assumption) | assumption); have q110 : x16_2 < (x3_2.length : Int) := of_decide_eq_true (by first | (with_reducible assumption) | assumption); obtain ⟨ad110, e110, hx110_0⟩ := Kd.at_int (Kd.R_reads' HO_3.out).2.2 x16_2 p110 q110; cases e110; have hn110_0 : ad110.block ≠ gb109 := Kd.own_blk (Kd.R_ne HO_3.out BK109.out (by decide)); have hn110_1 : ad110.block ≠ gb109 := Kd.own_blk (Kd.R_ne HO_3.out BK109.out (by decide)); have hn110_2 : ad110.block ≠ gb109 := Kd.own_blk (Kd.R_ne HO_3.out BK109.out (by decide)); have hn110_3 : ad110.block ≠ gb109 := Kd.own_blk (Kd.R_ne HO_3.out BK109.out (by decide)); have hn110_4 : ad110.block ≠ gb109 := Kd.own_blk (Kd.R_ne HO_3.out BK109.out (by decide)); replace hx110_0 := (cell_far (p := ⟨gb109, 0, none⟩) (by first | (rw [add_block]; exact hn110_0) | (show (Addr.add _ _).block ≠ _; rw [add_block]; exact hn110_0) | exact hn110_0) (.int .i64 ((rd_T28 l0 x16_2).f0))).trans hx110_0; replace hx110_0 := (cell_far (p := ⟨gb109, 1, none⟩) (by first | (rw [add_block]; exact hn110_1) | (show (Addr.add _ _).block ≠ _; rw [add_block]; exact hn110_1) | exact hn110_1) (.int .i64 ((rd_T28 l0 x16_2).f1))).trans hx110_0; replace hx110_0 := (cell_far (p := ⟨gb109, 2, none⟩) (by first | (rw [add_block]; exact hn110_2) | (show (Addr.add _ _).block ≠ _; rw [add_block]; exact hn110_2) | exact hn110_2) (.int .i64 ((rd_T28 l0 x16_2).f2))).trans hx110_0; replace hx110_0 := (cell_far (p := ⟨gb109, 3, none⟩) (by first | (rw [add_block]; exact hn110_3) | (show (Addr.add _ _).block ≠ _; rw [add_block]; exact hn110_3) | exact hn110_3) (.int .i64 ((rd_T28 l0 x16_2).f3))).trans hx110_0; replace hx110_0 := (cell_far (p := ⟨gb109, 4, none⟩) (by first | (rw [add_block]; exact hn110_4) | (show (Addr.add _ _).block ≠ _; rw [add_block]; exact hn110_4) | exact hn110_4) (.bool ((rd_T28 l0 x16_2).f4))).trans hx110_0; (try have hy110_0 := fun (n_ : Nat) => (show (((((((w11.drewN n_).setCell ⟨gb109, 0, none⟩ (.int .i64 ((rd_T28 l0 x16_2).f0))).setCell ⟨gb109, 1, none⟩ (.int .i64 ((rd_T28 l0 x16_2).f1))).setCell ⟨gb109, 2, none⟩ (.int .i64 ((rd_T28 l0 x16_2).f2))).setCell ⟨gb109, 3, none⟩ (.int .i64 ((rd_T28 l0 x16_2).f3))).setCell ⟨gb109, 4, none⟩ (.bool ((rd_T28 l0 x16_2).f4)))).cell? _ = some _ from ((congrArg (fun W_ : World => W_.cell? _) (show ((((((w11.drewN n_).setCell ⟨gb109, 0, none⟩ (.int .i64 ((rd_T28 l0 x16_2).f0))).setCell ⟨gb109, 1, none⟩ (.int .i64 ((rd_T28 l0 x16_2).f1))).setCell ⟨gb109, 2, none⟩ (.int .i64 ((rd_T28 l0 x16_2).f2))).setCell ⟨gb109, 3, none⟩ (.int .i64 ((rd_T28 l0 x16_2).f3))).setCell ⟨gb109, 4, none⟩ (.bool ((rd_T28 l0 x16_2).f4))) = World.drewN ((((((w11).setCell ⟨gb109, 0, none⟩ (.int .i64 ((rd_T28 l0 x16_2).f0))).setCell ⟨gb109, 1, none⟩ (.int .i64 ((rd_T28 l0 x16_2).f1))).setCell ⟨gb109, 2, none⟩ (.int .i64 ((rd_T28 l0 x16_2).f2))).setCell ⟨gb109, 3, none⟩ (.int .i64 ((rd_T28 l0 x16_2).f3))).setCell ⟨gb109, 4, none⟩ (.bool ((rd_T28 l0 x16_2).f4))) n_ from by simp only [setCell_dn])).trans ((World.cell?_drewN ((((((w11).setCell ⟨gb109, 0, none⟩ (.int .i64 ((rd_T28 l0 x16_2).f0))).setCell ⟨gb109, 1, none⟩ (.int .i64 ((rd_T28 l0 x16_2).f1))).setCell ⟨gb109, 2, none⟩ (.int .i64 ((rd_T28 l0 x16_2).f2))).setCell ⟨gb109, 3, none⟩ (.int .i64 ((rd_T28 l0 x16_2).f3))).setCell ⟨gb109, 4, none⟩ (.bool ((rd_T28 l0 x16_2).f4))) n_ _).trans hx110_0)))); clear hn110_0; clear hn110_1; clear hn110_2; clear hn110_3; clear hn110_4; replace p110 := eq_true p110; replace q110 := eq_true q110))
            repeat (go_quiet (first | ((with_reducible refine gate_dst (N := 5) rfl ?_); refine box_event ?hg (N := 5) ?hd (cs := #[.int .i64 0, .int .i64 0, .int .i64 0, .int .i64 0, .bool false]) (t := 28) ?hr ?_; (case hd => rfl); (case hg => rfl); (case hr => first | (go_simp; done) | (go_simp; rfl)); intro gb109 hg w11 hbox hb; have n0_ := Aside0.mk (Kd.R_below (by (with_reducible repeat (first | apply Kd.R_alloc | apply Kd.R_drewN | apply Kd.R_drew)); exact HO_3.out) hb); have n1_ := Aside0.mk (below_step (by repeat (first | (with_reducible first | exact HB.out | apply below_alloc | apply pw_below_drewN | apply below_drew1) | exact HB.out)) hb); have n2_ := Aside0.mk (hbox); have n3_ := Aside0.mk ((by rw [hg]; exact (below_size (by repeat (first | (with_reducible first | exact HB.out | apply below_alloc | apply pw_below_drewN | apply below_drew1) | exact HB.out))) : w.heap.size ≤ gb109)); have n4_ := Aside0.mk ((by rw [hg]; exact (below_size (by repeat (first | (with_reducible first | exact HB.out | apply below_alloc | apply pw_below_drewN | apply below_drew1) | exact HB.out))) : w.heap.size ≤ gb109)); clear HO_3; clear HB; have HO_3 := n0_; have HB := n1_; have BK109 := n2_; have GW109 := n3_; have GE109 := n4_; clear n0_ n1_ n2_ n3_ n4_; clear hb hbox hg; have hcz12_0 : w11.cell? ⟨gb109, 0, none⟩ = some (.int .i64 0) := (blk_cell BK109.out 0).trans rfl; have hcz12_1 : w11.cell? ⟨gb109, 1, none⟩ = some (.int .i64 0) := (blk_cell BK109.out 1).trans rfl; have hcz12_2 : w11.cell? ⟨gb109, 2, none⟩ = some (.int .i64 0) := (blk_cell BK109.out 2).trans rfl; have hcz12_3 : w11.cell? ⟨gb109, 3, none⟩ = some (.int .i64 0) := (blk_cell BK109.out 3).trans rfl; have hcz12_4 : w11.cell? ⟨gb109, 4, none⟩ = some (.bool false) := (blk_cell BK109.out 4).trans rfl; have hfz12_0 := blk_frozen BK109.out 0; have hfz12_1 := blk_frozen BK109.out 1; have hfz12_2 := blk_frozen BK109.out 2; have hfz12_3 := blk_frozen BK109.out 3; have hfz12_4 := blk_frozen BK109.out 4; obtain ⟨Ao13, co13, eo13⟩ := Kd.R_slice HO_3.out; subst eo13; have p110 : 0 ≤ (x16_2 : Int) := of_decide_eq_true (by first | (with_reducible assumption) | assumption); have q110 : x16_2 < (x3_2.length : Int) := of_decide_eq_true (by first | (with_reducible assumption) | assumption); obtain ⟨ad110, e110, hx110_0⟩ := Kd.at_int (Kd.R_reads' HO_3.out).2.2 x16_2 p110 q110; cases e110; have hn110_0 : ad110.block ≠ gb109 := Kd.own_blk (Kd.R_ne HO_3.out BK109.out (by decide)); have hn110_1 : ad110.block ≠ gb109 := Kd.own_blk (Kd.R_ne HO_3.out BK109.out (by decide)); have hn110_2 : ad110.block ≠ gb109 := Kd.own_blk (Kd.R_ne HO_3.out BK109.out (by decide)); have hn110_3 : ad110.block ≠ gb109 := Kd.own_blk (Kd.R_ne HO_3.out BK109.out (by decide)); have hn110_4 : ad110.block ≠ gb109 := Kd.own_blk (Kd.R_ne HO_3.out BK109.out (by decide)); replace hx110_0 := (cell_far (p := ⟨gb109, 0, none⟩) (by first | (rw [add_block]; exact hn110_0) | (show (Addr.add _ _).block ≠ _; rw [add_block]; exact hn110_0) | exact hn110_0) (.int .i64 ((rd_T28 l0 x16_2).f0))).trans hx110_0; replace hx110_0 := (cell_far (p := ⟨gb109, 1, none⟩) (by first | (rw [add_block]; exact hn110_1) | (show (Addr.add _ _).block ≠ _; rw [add_block]; exact hn110_1) | exact hn110_1) (.int .i64 ((rd_T28 l0 x16_2).f1))).trans hx110_0; replace hx110_0 := (cell_far (p := ⟨gb109, 2, none⟩) (by first | (rw [add_block]; exact hn110_2) | (show (Addr.add _ _).block ≠ _; rw [add_block]; exact hn110_2) | exact hn110_2) (.int .i64 ((rd_T28 l0 x16_2).f2))).trans hx110_0; replace hx110_0 := (cell_far (p := ⟨gb109, 3, none⟩) (by first | (rw [add_block]; exact hn110_3) | (show (Addr.add _ _).block ≠ _; rw [add_block]; exact hn110_3) | exact hn110_3) (.int .i64 ((rd_T28 l0 x16_2).f3))).trans hx110_0; replace hx110_0 := (cell_far (p := ⟨gb109, 4, none⟩) (by first | (rw [add_block]; exact hn110_4) | (show (Addr.add _ _).block ≠ _; rw [add_block]; exact hn110_4) | exact hn110_4) (.bool ((rd_T28 l0 x16_2).f4))).trans hx110_0; (try have hy110_0 := fun (n_ : Nat) => (show (((((((w11.drewN n_).setCell ⟨gb109, 0, none⟩ (.int .i64 ((rd_T28 l0 x16_2).f0))).setCell ⟨gb109, 1, none⟩ (.int .i64 ((rd_T28 l0 x16_2).f1))).setCell ⟨gb109, 2, none⟩ (.int .i64 ((rd_T28 l0 x16_2).f2))).setCell ⟨gb109, 3, none⟩ (.int .i64 ((rd_T28 l0 x16_2).f3))).setCell ⟨gb109, 4, none⟩ (.bool ((rd_T28 l0 x16_2).f4)))).cell? _ = some _ from ((congrArg (fun W_ : World => W_.cell? _) (show ((((((w11.drewN n_).setCell ⟨gb109, 0, none⟩ (.int .i64 ((rd_T28 l0 x16_2).f0))).setCell ⟨gb109, 1, none⟩ (.int .i64 ((rd_T28 l0 x16_2).f1))).setCell ⟨gb109, 2, none⟩ (.int .i64 ((rd_T28 l0 x16_2).f2))).setCell ⟨gb109, 3, none⟩ (.int .i64 ((rd_T28 l0 x16_2).f3))).setCell ⟨gb109, 4, none⟩ (.bool ((rd_T28 l0 x16_2).f4))) = World.drewN ((((((w11).setCell ⟨gb109, 0, none⟩ (.int .i64 ((rd_T28 l0 x16_2).f0))).setCell ⟨gb109, 1, none⟩ (.int .i64 ((rd_T28 l0 x16_2).f1))).setCell ⟨gb109, 2, none⟩ (.int .i64 ((rd_T28 l0 x16_2).f2))).setCell ⟨gb109, 3, none⟩ (.int .i64 ((rd_T28 l0 x16_2).f3))).setCell ⟨gb109, 4, none⟩ (.bool ((rd_T28 l0 x16_2).f4))) n_ from by simp only [setCell_dn])).trans ((World.cell?_drewN ((((((w11).setCell ⟨gb109, 0, none⟩ (.int .i64 ((rd_T28 l0 x16_2).f0))).setCell ⟨gb109, 1, none⟩ (.int .i64 ((rd_T28 l0 x16_2).f1))).setCell ⟨gb109, 2, none⟩ (.int .i64 ((rd_T28 l0 x16_2).f2))).setCell ⟨gb109, 3, none⟩ (.int .i64 ((rd_T28 l0 x16_2).f3))).setCell ⟨gb109, 4, none⟩ (.bool ((rd_T28 l0 x16_2).f4))) n_ _).trans hx110_0)))); clear hn110_0; clear hn110_1; clear hn110_2; clear hn110_3; clear hn110_4; replace p110 := eq_true p110; replace q110 := eq_true q110)); try go_wp2_with (first | ((with_reducible refine gate_dst (N := 5) rfl ?_); refine box_event ?hg (N := 5) ?hd (cs := #[.int .i64 0, .int .i64 0, .int .i64 0, .int .i64 0, .bool false]) (t := 28) ?hr ?_; (case hd => rfl); (case hg => rfl); (case hr => first | (go_simp; done) | (go_simp; rfl)); intro gb109 hg w11 hbox hb; have n0_ := Aside0.mk (Kd.R_below (by (with_reducible repeat (first | apply Kd.R_alloc | apply Kd.R_drewN | apply Kd.R_drew)); exact HO_3.out) hb); have n1_ := Aside0.mk (below_step (by repeat (first | (with_reducible first | exact HB.out | apply below_alloc | apply pw_below_drewN | apply below_drew1) | exact HB.out)) hb); have n2_ := Aside0.mk (hbox); have n3_ := Aside0.mk ((by rw [hg]; exact (below_size (by repeat (first | (with_reducible first | exact HB.out | apply below_alloc | apply pw_below_drewN | apply below_drew1) | exact HB.out))) : w.heap.size ≤ gb109)); have n4_ := Aside0.mk ((by rw [hg]; exact (below_size (by repeat (first | (with_reducible first | exact HB.out | apply below_alloc | apply pw_below_drewN | apply below_drew1) | exact HB.out))) : w.heap.size ≤ gb109)); clear HO_3; clear HB; have HO_3 := n0_; have HB := n1_; have BK109 := n2_; have GW109 := n3_; have GE109 := n4_; clear n0_ n1_ n2_ n3_ n4_; clear hb hbox hg; have hcz12_0 : w11.cell? ⟨gb109, 0, none⟩ = some (.int .i64 0) := (blk_cell BK109.out 0).trans rfl; have hcz12_1 : w11.cell? ⟨gb109, 1, none⟩ = some (.int .i64 0) := (blk_cell BK109.out 1).trans rfl; have hcz12_2 : w11.cell? ⟨gb109, 2, none⟩ = some (.int .i64 0) := (blk_cell BK109.out 2).trans rfl; have hcz12_3 : w11.cell? ⟨gb109, 3, none⟩ = some (.int .i64 0) := (blk_cell BK109.out 3).trans rfl; have hcz12_4 : w11.cell? ⟨gb109, 4, none⟩ = some (.bool false) := (blk_cell BK109.out 4).trans rfl; have hfz12_0 := blk_frozen BK109.out 0; have hfz12_1 := blk_frozen BK109.out 1; have hfz12_2 := blk_frozen BK109.out 2; have hfz12_3 := blk_frozen BK109.out 3; have hfz12_4 := blk_frozen BK109.out 4; obtain ⟨Ao13, co13, eo13⟩ := Kd.R_slice HO_3.out; subst eo13; have p110 : 0 ≤ (x16_2 : Int) := of_decide_eq_true (by first | (with_reducible assumption) | assumption); have q110 : x16_2 < (x3_2.length : Int) := of_decide_eq_true (by first | (with_reducible assumption) | assumption); obtain ⟨ad110, e110, hx110_0⟩ := Kd.at_int (Kd.R_reads' HO_3.out).2.2 x16_2 p110 q110; cases e110; have hn110_0 : ad110.block ≠ gb109 := Kd.own_blk (Kd.R_ne HO_3.out BK109.out (by decide)); have hn110_1 : ad110.block ≠ gb109 := Kd.own_blk (Kd.R_ne HO_3.out BK109.out (by decide)); have hn110_2 : ad110.block ≠ gb109 := Kd.own_blk (Kd.R_ne HO_3.out BK109.out (by decide)); have hn110_3 : ad110.block ≠ gb109 := Kd.own_blk (Kd.R_ne HO_3.out BK109.out (by decide)); have hn110_4 : ad110.block ≠ gb109 := Kd.own_blk (Kd.R_ne HO_3.out BK109.out (by decide)); replace hx110_0 := (cell_far (p := ⟨gb109, 0, none⟩) (by first | (rw [add_block]; exact hn110_0) | (show (Addr.add _ _).block ≠ _; rw [add_block]; exact hn110_0) | exact hn110_0) (.int .i64 ((rd_T28 l0 x16_2).f0))).trans hx110_0; replace hx110_0 := (cell_far (p := ⟨gb109, 1, none⟩) (by first | (rw [add_block]; exact hn110_1) | (show (Addr.add _ _).block ≠ _; rw [add_block]; exact hn110_1) | exact hn110_1) (.int .i64 ((rd_T28 l0 x16_2).f1))).trans hx110_0; replace hx110_0 := (cell_far (p := ⟨gb109, 2, none⟩) (by first | (rw [add_block]; exact hn110_2) | (show (Addr.add _ _).block ≠ _; rw [add_block]; exact hn110_2) | exact hn110_2) (.int .i64 ((rd_T28 l0 x16_2).f2))).trans hx110_0; replace hx110_0 := (cell_far (p := ⟨gb109, 3, none⟩) (by first | (rw [add_block]; exact hn110_3) | (show (Addr.add _ _).block ≠ _; rw [add_block]; exact hn110_3) | exact hn110_3) (.int .i64 ((rd_T28 l0 x16_2).f3))).trans hx110_0; replace hx110_0 := (cell_far (p := ⟨gb109, 4, none⟩) (by first | (rw [add_block]; exact hn110_4) | (show (Addr.add _ _).block ≠ _; rw [add_block]; exact hn110_4) | exact hn110_4) (.bool ((rd_T28 l0 x16_2).f4))).trans hx110_0; (try have hy110_0 := fun (n_ : Nat) => (show (((((((w11.drewN n_).setCell ⟨gb109, 0, none⟩ (.int .i64 ((rd_T28 l0 x16_2).f0))).setCell ⟨gb109, 1, none⟩ (.int .i64 ((rd_T28 l0 x16_2).f1))).setCell ⟨gb109, 2, none⟩ (.int .i64 ((rd_T28 l0 x16_2).f2))).setCell ⟨gb109, 3, none⟩ (.int .i64 ((rd_T28 l0 x16_2).f3))).setCell ⟨gb109, 4, none⟩ (.bool ((rd_T28 l0 x16_2).f4)))).cell? _ = some _ from ((congrArg (fun W_ : World => W_.cell? _) (show ((((((w11.drewN n_).setCell ⟨gb109, 0, none⟩ (.int .i64 ((rd_T28 l0 x16_2).f0))).setCell ⟨gb109, 1, none⟩ (.int .i64 ((rd_T28 l0 x16_2).f1))).setCell ⟨gb109, 2, none⟩ (.int .i64 ((rd_T28 l0 x16_2).f2))).setCell ⟨gb109, 3, none⟩ (.int .i64 ((rd_T28 l0 x16_2).f3))).setCell ⟨gb109, 4, none⟩ (.bool ((rd_T28 l0 x16_2).f4))) = World.drewN ((((((w11).setCell ⟨gb109, 0, none⟩ (.int .i64 ((rd_T28 l0 x16_2).f0))).setCell ⟨gb109, 1, none⟩ (.int .i64 ((rd_T28 l0 x16_2).f1))).setCell ⟨gb109, 2, none⟩ (.int .i64 ((rd_T28 l0 x16_2).f2))).setCell ⟨gb109, 3, none⟩ (.int .i64 ((rd_T28 l0 x16_2).f3))).setCell ⟨gb109, 4, none⟩ (.bool ((rd_T28 l0 x16_2).f4))) n_ from by simp only [setCell_dn])).trans ((World.cell?_drewN ((((((w11).setCell ⟨gb109, 0, none⟩ (.int .i64 ((rd_T28 l0 x16_2).f0))).setCell ⟨gb109, 1, none⟩ (.int .i64 ((rd_T28 l0 x16_2).f1))).setCell ⟨gb109, 2, none⟩ (.int .i64 ((rd_T28 l0 x16_2).f2))).setCell ⟨gb109, 3, none⟩ (.int .i64 ((rd_T28 l0 x16_2).f3))).setCell ⟨gb109, 4, none⟩ (.bool ((rd_T28 l0 x16_2).f4))) n_ _).trans hx110_0)))); clear hn110_0; clear hn110_1; clear hn110_2; clear hn110_3; clear hn110_4; replace p110 := eq_true p110; replace q110 := eq_true q110)))
            go_roundg k2
            case measure => have := HK1.out; have := HK2.out; omega
            case rel => exact ⟨(x3_2), (wrap64 (x16_2 + 1)), (by first | rfl | (simp; done) | (simp [*]; done)), H', ⟨by have := HK1.out; have := HK2.out; omega⟩, ⟨by (with_reducible repeat (first | apply Kd.R_alloc | apply Kd.R_drewN | apply Kd.R_drew)); exact Kd.R_mono (Kd.R_far (p := ⟨gb109, 4, none⟩) (Kd.R_far (p := ⟨gb109, 3, none⟩) (Kd.R_far (p := ⟨gb109, 2, none⟩) (Kd.R_far (p := ⟨gb109, 1, none⟩) (Kd.R_far (p := ⟨gb109, 0, none⟩) (Kd.R_types HO_3.out BK109.out (by decide)) (fun _ hk => hk.2) (.int .i64 ((rd_T28 l0 x16_2).f0))) (fun _ hk => hk.2) (.int .i64 ((rd_T28 l0 x16_2).f1))) (fun _ hk => hk.2) (.int .i64 ((rd_T28 l0 x16_2).f2))) (fun _ hk => hk.2) (.int .i64 ((rd_T28 l0 x16_2).f3))) (fun _ hk => hk.2) (.bool ((rd_T28 l0 x16_2).f4))) (fun _ hk => trivial)⟩, ⟨by repeat (first | (with_reducible first | exact HB.out | apply below_alloc | apply pw_below_drewN | apply below_drew1 | refine below_set ?_ GE109.out) | exact HB.out)⟩⟩
           ·rw [if_neg c10] at H
            have c10b0 : ((rd x3_2 x16_2) == 1) = false := beq_eq_false_iff_ne.mpr c10
            have c10b1 : ((rd x3_2 x16_2) != 1) = true := bne_iff_ne.mpr c10
            replace H := Option.bind_eq_some_iff.mp H
            obtain ⟨t111, A140, H⟩ := H
            replace H : (if ((rd_T28 l0 x16_2).f0) = t111 then (right_held.l0 k2 l0 (x3_2.set (x16_2 : Int).toNat 1)) else (right_held.l2 k2 l0 x3_2 x16_2 l0 (l0.length : Int) x16_2 l0 (l0.length : Int) 0 ((rd_T28 l0 x16_2).f0) ((rd_T28 l0 x16_2).f1) ((rd_T28 l0 x16_2).f2) ((rd_T28 l0 x16_2).f3) ((rd_T28 l0 x16_2).f4))) = some r := H
            have A14 := Aside0.mk A140
            clear A140
            by_cases c15 : ((rd_T28 l0 x16_2).f0) = t111
            ·rw [if_pos c15] at H
             have c15b0 : (((rd_T28 l0 x16_2).f0) == t111) = true := beq_iff_eq.mpr c15
             have c15b1 : (((rd_T28 l0 x16_2).f0) != t111) = false := bne_eq_false_iff_eq.mpr c15
             clear c15
             obtain ⟨y112, hy112⟩ : ∃ y_ : List Int, y_ = (x3_2.set (x16_2 : Int).toNat 1) := ⟨_, rfl⟩
             replace H : (right_held.l0 k2 l0 y112) = some r := by first | (rw [hy112]; with_reducible exact H) | (have H2_ := (Option.bind_some _ _).symm.trans H; rw [hy112]; with_reducible exact H2_) | (have H2_ := (Option.bind_some _ _).symm.trans H; with_reducible exact H2_) | with_reducible exact H | (rw [hy112]; exact H) | exact H
             have Ny112 := Aside0.mk hy112
             clear hy112
             have H' := Aside0.mk H
             clear H
             have p108 : 0 ≤ (x16_2 : Int) := of_decide_eq_true (by first | (with_reducible assumption) | assumption)
             have q108 : x16_2 < (l0.length : Int) := of_decide_eq_true (by first | (with_reducible assumption) | assumption)
             obtain ⟨ad108, e108, hx108_0, hx108_1, hx108_2, hx108_3, hx108_4⟩ := at_T28 HR0.out x16_2 p108 q108
             cases e108
             replace hx108_0 := (HB.out.cell (World.block_lt_of_cell? w _ hx108_0)).trans hx108_0
             replace hx108_1 := (HB.out.cell (World.block_lt_of_cell? w _ hx108_1)).trans hx108_1
             replace hx108_2 := (HB.out.cell (World.block_lt_of_cell? w _ hx108_2)).trans hx108_2
             replace hx108_3 := (HB.out.cell (World.block_lt_of_cell? w _ hx108_3)).trans hx108_3
             replace hx108_4 := (HB.out.cell (World.block_lt_of_cell? w _ hx108_4)).trans hx108_4
             replace p108 := eq_true p108
             replace q108 := eq_true q108
             go_wp2_with (first | ((with_reducible refine gate_dst (N := 5) rfl ?_); refine box_event ?hg (N := 5) ?hd (cs := #[.int .i64 0, .int .i64 0, .int .i64 0, .int .i64 0, .bool false]) (t := 28) ?hr ?_; (case hd => rfl); (case hg => rfl); (case hr => first | (go_simp; done) | (go_simp; rfl)); intro gb109 hg w17 hbox hb; have n0_ := Aside0.mk (Kd.R_below (by (with_reducible repeat (first | apply Kd.R_alloc | apply Kd.R_drewN | apply Kd.R_drew)); exact HO_3.out) hb); have n1_ := Aside0.mk (below_step (by repeat (first | (with_reducible first | exact HB.out | apply below_alloc | apply pw_below_drewN | apply below_drew1) | exact HB.out)) hb); have n2_ := Aside0.mk (hbox); have n3_ := Aside0.mk ((by rw [hg]; exact (below_size (by repeat (first | (with_reducible first | exact HB.out | apply below_alloc | apply pw_below_drewN | apply below_drew1) | exact HB.out))) : w.heap.size ≤ gb109)); have n4_ := Aside0.mk ((by rw [hg]; exact (below_size (by repeat (first | (with_reducible first | exact HB.out | apply below_alloc | apply pw_below_drewN | apply below_drew1) | exact HB.out))) : w.heap.size ≤ gb109)); clear HO_3; clear HB; have HO_3 := n0_; have HB := n1_; have BK109 := n2_; have GW109 := n3_; have GE109 := n4_; clear n0_ n1_ n2_ n3_ n4_; clear hb hbox hg; have hcz18_0 : w17.cell? ⟨gb109, 0, none⟩ = some (.int .i64 0) := (blk_cell BK109.out 0).trans rfl; have hcz18_1 : w17.cell? ⟨gb109, 1, none⟩ = some (.int .i64 0) := (blk_cell BK109.out 1).trans rfl; have hcz18_2 : w17.cell? ⟨gb109, 2, none⟩ = some (.int .i64 0) := (blk_cell BK109.out 2).trans rfl; have hcz18_3 : w17.cell? ⟨gb109, 3, none⟩ = some (.int .i64 0) := (blk_cell BK109.out 3).trans rfl; have hcz18_4 : w17.cell? ⟨gb109, 4, none⟩ = some (.bool false) := (blk_cell BK109.out 4).trans rfl; have hfz18_0 := blk_frozen BK109.out 0; have hfz18_1 := blk_frozen BK109.out 1; have hfz18_2 := blk_frozen BK109.out 2; have hfz18_3 := blk_frozen BK109.out 3; have hfz18_4 := blk_frozen BK109.out 4) | ((with_reducible refine gate_store (t := 28) (p := 5) rfl ?_); (try (rw [drewN_self w17]; generalize hq_ : World.drewN w17 _ = w17; have n0_ := Aside0.mk (Kd.R_at hq_ HO_3.out); have n1_ := Aside0.mk (blk_at hq_ BK109.out); have n2_ := Aside0.mk (below_at hq_ HB.out); clear hq_ HO_3 BK109 HB; have HO_3 := n0_; have BK109 := n1_; have HB := n2_; clear n0_ n1_ n2_)); refine store_event (t := 28) (p := 5) (v := ?vo_w19) (w1 := (((((w17.setCell ⟨gb109, 0, none⟩ (.int .i64 ((rd_T28 l0 x16_2).f0))).setCell ⟨gb109, 1, none⟩ (.int .i64 ((rd_T28 l0 x16_2).f1))).setCell ⟨gb109, 2, none⟩ (.int .i64 ((rd_T28 l0 x16_2).f2))).setCell ⟨gb109, 3, none⟩ (.int .i64 ((rd_T28 l0 x16_2).f3))).setCell ⟨gb109, 4, none⟩ (.bool ((rd_T28 l0 x16_2).f4)))) ?hg ?ho ?hn ?hr ?_; (case ho => rfl); (case hg => rfl); (case hn => rfl); (case hr => first | (go_simp; done) | (go_simp; rfl)); intro w19 hw; have n0_ : Aside0 (Kd.R (Kd.int .i64) 3 w19 w.heap.size (fun _ => True) v106 x3_2) := ⟨(by rw [hw]; exact (by (with_reducible repeat (first | apply Kd.R_alloc | apply Kd.R_drewN | apply Kd.R_drew)); exact Kd.R_mono (Kd.R_far (p := ⟨gb109, 4, none⟩) (Kd.R_far (p := ⟨gb109, 3, none⟩) (Kd.R_far (p := ⟨gb109, 2, none⟩) (Kd.R_far (p := ⟨gb109, 1, none⟩) (Kd.R_far (p := ⟨gb109, 0, none⟩) (Kd.R_types HO_3.out BK109.out (by decide)) (fun _ hk => hk.2) (.int .i64 ((rd_T28 l0 x16_2).f0))) (fun _ hk => hk.2) (.int .i64 ((rd_T28 l0 x16_2).f1))) (fun _ hk => hk.2) (.int .i64 ((rd_T28 l0 x16_2).f2))) (fun _ hk => hk.2) (.int .i64 ((rd_T28 l0 x16_2).f3))) (fun _ hk => hk.2) (.bool ((rd_T28 l0 x16_2).f4))) (fun _ hk => trivial)))⟩; have n1_ : Aside0 (w19.heap[gb109]? = some (.cells #[.int .i64 ((rd_T28 l0 x16_2).f0), .int .i64 ((rd_T28 l0 x16_2).f1), .int .i64 ((rd_T28 l0 x16_2).f2), .int .i64 ((rd_T28 l0 x16_2).f3), .bool ((rd_T28 l0 x16_2).f4)] 28 (0, 0))) := ⟨(by rw [hw]; exact (by (with_reducible repeat (first | refine blk_drewN ?_ _ | refine blk_drew ?_ | refine blk_alloc ?_ _)); refine blk_put (cs := #[.int .i64 ((rd_T28 l0 x16_2).f0), .int .i64 ((rd_T28 l0 x16_2).f1), .int .i64 ((rd_T28 l0 x16_2).f2), .int .i64 ((rd_T28 l0 x16_2).f3), .bool false]) ?_ 4 _ rfl; (with_reducible repeat (first | refine blk_drewN ?_ _ | refine blk_drew ?_ | refine blk_alloc ?_ _)); refine blk_put (cs := #[.int .i64 ((rd_T28 l0 x16_2).f0), .int .i64 ((rd_T28 l0 x16_2).f1), .int .i64 ((rd_T28 l0 x16_2).f2), .int .i64 0, .bool false]) ?_ 3 _ rfl; (with_reducible repeat (first | refine blk_drewN ?_ _ | refine blk_drew ?_ | refine blk_alloc ?_ _)); refine blk_put (cs := #[.int .i64 ((rd_T28 l0 x16_2).f0), .int .i64 ((rd_T28 l0 x16_2).f1), .int .i64 0, .int .i64 0, .bool false]) ?_ 2 _ rfl; (with_reducible repeat (first | refine blk_drewN ?_ _ | refine blk_drew ?_ | refine blk_alloc ?_ _)); refine blk_put (cs := #[.int .i64 ((rd_T28 l0 x16_2).f0), .int .i64 0, .int .i64 0, .int .i64 0, .bool false]) ?_ 1 _ rfl; (with_reducible repeat (first | refine blk_drewN ?_ _ | refine blk_drew ?_ | refine blk_alloc ?_ _)); refine blk_put (cs := #[.int .i64 0, .int .i64 0, .int .i64 0, .int .i64 0, .bool false]) ?_ 0 _ rfl; (with_reducible repeat (first | refine blk_drewN ?_ _ | refine blk_drew ?_ | refine blk_alloc ?_ _)); exact BK109.out))⟩; have n2_ : Aside0 (Below w.heap.size w w19) := ⟨(by rw [hw]; exact (by repeat (first | (with_reducible first | exact HB.out | apply below_alloc | apply pw_below_drewN | apply below_drew1 | refine below_set ?_ GE109.out) | exact HB.out)))⟩; clear hw; clear HO_3; clear BK109; clear HB; have HO_3 := n0_; have BK109 := n1_; have HB := n2_; clear n0_ n1_ n2_; obtain ⟨Ao20, co20, eo20⟩ := Kd.R_slice HO_3.out; subst eo20; have p110 : 0 ≤ (x16_2 : Int) := of_decide_eq_true (by first | (with_reducible assumption) | assumption); have q110 : x16_2 < (x3_2.length : Int) := of_decide_eq_true (by first | (with_reducible assumption) | assumption); obtain ⟨ad110, e110, hx110_0⟩ := Kd.at_int (Kd.R_reads' HO_3.out).2.2 x16_2 p110 q110; cases e110; replace p110 := eq_true p110; replace q110 := eq_true q110; have hcz21_0 : w19.cell? ⟨gb109, 0, none⟩ = some (.int .i64 ((rd_T28 l0 x16_2).f0)) := (blk_cell BK109.out 0).trans rfl; have hcz21_1 : w19.cell? ⟨gb109, 1, none⟩ = some (.int .i64 ((rd_T28 l0 x16_2).f1)) := (blk_cell BK109.out 1).trans rfl; have hcz21_2 : w19.cell? ⟨gb109, 2, none⟩ = some (.int .i64 ((rd_T28 l0 x16_2).f2)) := (blk_cell BK109.out 2).trans rfl; have hcz21_3 : w19.cell? ⟨gb109, 3, none⟩ = some (.int .i64 ((rd_T28 l0 x16_2).f3)) := (blk_cell BK109.out 3).trans rfl; have hcz21_4 : w19.cell? ⟨gb109, 4, none⟩ = some (.bool ((rd_T28 l0 x16_2).f4)) := (blk_cell BK109.out 4).trans rfl; have hfz21_0 := blk_frozen BK109.out 0; have hfz21_1 := blk_frozen BK109.out 1; have hfz21_2 := blk_frozen BK109.out 2; have hfz21_3 := blk_frozen BK109.out 3; have hfz21_4 := blk_frozen BK109.out 4) | (go_at_call 26; (with_reducible refine (right_owner.calls ((rd_T28 l0 x16_2).f2) t111 _ A14.out).mono ?_); rintro e w' ⟨rfl, ⟨nd, rfl⟩⟩; (try first | exact ⟨rfl, _, World.drewN_drewN _ _ _⟩ | exact ⟨rfl, _, Eq.trans (World.drewN_drewN _ _ _) (congrArg (World.drewN _) (Nat.add_assoc _ _ _))⟩); have p16 : 0 ≤ (x16_2 : Int) := of_decide_eq_true (by first | (with_reducible assumption) | assumption); have q16 : (x16_2 : Int) < ((x3_2.length : Int) : Int) := of_decide_eq_true (by first | (with_reducible assumption) | assumption); obtain ⟨go16, co16, eo16, gb16, gl16, cl16, HG16⟩ := Kd.R_form HO_3.out (by omega); (first | cases eo16 | (injection eo16 with ea_ en_ ec_; (first | subst ea_ | (injection ea_ with ea_; subst ea_)); subst ec_; clear en_)); have GB16 := Aside0.mk gb16; have GG16 := Aside0.mk HG16; clear gb16 gl16 HG16; (first | simp only [add_plain] at hx110_0 | skip); obtain ⟨hx16_0, hf16_0⟩ := Kd.R_celln 0 HO_3.out (x16_2 : Int) p16 q16; replace p16 := eq_true p16; replace q16 := eq_true q16; obtain ⟨hy22_, hz22_⟩ := Kd.R_celln 0 HO_3.out (x16_2 : Int) (of_decide_eq_true (by first | (with_reducible assumption) | assumption)) (of_decide_eq_true (by first | (with_reducible assumption) | assumption)); have HP22 := Kd.R_putg HO_3.out (x16_2 : Int) 1) | ((with_reducible refine gate_store (t := 3) (p := 34) rfl ?_); (try (rw [drewN_self w19]; generalize hq_ : World.drewN w19 _ = w19; have n0_ := Aside0.mk (Kd.R_at hq_ HO_3.out); have n1_ := Aside0.mk (blk_at hq_ BK109.out); have n2_ := Aside0.mk (below_at hq_ HB.out); clear hq_ HO_3 BK109 HB; have HO_3 := n0_; have BK109 := n1_; have HB := n2_; clear n0_ n1_ n2_; (try (obtain ⟨hy22_, hz22_⟩ := Kd.R_celln 0 HO_3.out (x16_2 : Int) (of_decide_eq_true (by first | (with_reducible assumption) | assumption)) (of_decide_eq_true (by first | (with_reducible assumption) | assumption)))); (try (have HP22 := Kd.R_putg HO_3.out (x16_2 : Int) 1)))); refine store_event (t := 3) (p := 34) (v := ?vo_w23) (w1 := (w19.setCell ⟨go16, (x16_2 : Int).toNat, none⟩ (.int .i64 1))) ?hg ?ho ?hn ?hr ?_; (case ho => rfl); (case hg => rfl); (case hn => rfl); (case hr => first | (go_simp; done) | (go_simp; rfl)); intro w23 hw; have hg : w19.grownBy w23 (some go16) := (by rw [hw]; exact HP22.2); have hp_ : Kd.R (Kd.int .i64) 3 w23 w.heap.size (fun _ => True) (.slice (some ⟨go16, 0, none⟩) x3_2.length co20) y112 := (by rw [hw, Ny112.out]; exact HP22.1); clear HP22; have n0_ := Aside0.mk (hp_); have n1_ := Aside0.mk (blk_grown (g := gb109) (o := .cells #[.int .i64 ((rd_T28 l0 x16_2).f0), .int .i64 ((rd_T28 l0 x16_2).f1), .int .i64 ((rd_T28 l0 x16_2).f2), .int .i64 ((rd_T28 l0 x16_2).f3), .bool ((rd_T28 l0 x16_2).f4)] 28 (0, 0)) (by (with_reducible repeat (first | refine blk_drewN ?_ _ | refine blk_drew ?_ | refine blk_alloc ?_ _)); exact BK109.out) hg (Kd.R_ne HO_3.out BK109.out (by decide))); have n2_ := Aside0.mk ((by rw [hw]; exact below_set (HB.out) GB16.out : Below w.heap.size w w23)); clear HO_3; clear BK109; clear HB; have HO_3 := n0_; have BK109 := n1_; have HB := n2_; clear n0_ n1_ n2_; clear hg hw hp_))
             repeat (go_quiet (first | ((with_reducible refine gate_dst (N := 5) rfl ?_); refine box_event ?hg (N := 5) ?hd (cs := #[.int .i64 0, .int .i64 0, .int .i64 0, .int .i64 0, .bool false]) (t := 28) ?hr ?_; (case hd => rfl); (case hg => rfl); (case hr => first | (go_simp; done) | (go_simp; rfl)); intro gb109 hg w17 hbox hb; have n0_ := Aside0.mk (Kd.R_below (by (with_reducible repeat (first | apply Kd.R_alloc | apply Kd.R_drewN | apply Kd.R_drew)); exact HO_3.out) hb); have n1_ := Aside0.mk (below_step (by repeat (first | (with_reducible first | exact HB.out | apply below_alloc | apply pw_below_drewN | apply below_drew1) | exact HB.out)) hb); have n2_ := Aside0.mk (hbox); have n3_ := Aside0.mk ((by rw [hg]; exact (below_size (by repeat (first | (with_reducible first | exact HB.out | apply below_alloc | apply pw_below_drewN | apply below_drew1) | exact HB.out))) : w.heap.size ≤ gb109)); have n4_ := Aside0.mk ((by rw [hg]; exact (below_size (by repeat (first | (with_reducible first | exact HB.out | apply below_alloc | apply pw_below_drewN | apply below_drew1) | exact HB.out))) : w.heap.size ≤ gb109)); clear HO_3; clear HB; have HO_3 := n0_; have HB := n1_; have BK109 := n2_; have GW109 := n3_; have GE109 := n4_; clear n0_ n1_ n2_ n3_ n4_; clear hb hbox hg; have hcz18_0 : w17.cell? ⟨gb109, 0, none⟩ = some (.int .i64 0) := (blk_cell BK109.out 0).trans rfl; have hcz18_1 : w17.cell? ⟨gb109, 1, none⟩ = some (.int .i64 0) := (blk_cell BK109.out 1).trans rfl; have hcz18_2 : w17.cell? ⟨gb109, 2, none⟩ = some (.int .i64 0) := (blk_cell BK109.out 2).trans rfl; have hcz18_3 : w17.cell? ⟨gb109, 3, none⟩ = some (.int .i64 0) := (blk_cell BK109.out 3).trans rfl; have hcz18_4 : w17.cell? ⟨gb109, 4, none⟩ = some (.bool false) := (blk_cell BK109.out 4).trans rfl; have hfz18_0 := blk_frozen BK109.out 0; have hfz18_1 := blk_frozen BK109.out 1; have hfz18_2 := blk_frozen BK109.out 2; have hfz18_3 := blk_frozen BK109.out 3; have hfz18_4 := blk_frozen BK109.out 4) | ((with_reducible refine gate_store (t := 28) (p := 5) rfl ?_); (try (rw [drewN_self w17]; generalize hq_ : World.drewN w17 _ = w17; have n0_ := Aside0.mk (Kd.R_at hq_ HO_3.out); have n1_ := Aside0.mk (blk_at hq_ BK109.out); have n2_ := Aside0.mk (below_at hq_ HB.out); clear hq_ HO_3 BK109 HB; have HO_3 := n0_; have BK109 := n1_; have HB := n2_; clear n0_ n1_ n2_)); refine store_event (t := 28) (p := 5) (v := ?vo_w19) (w1 := (((((w17.setCell ⟨gb109, 0, none⟩ (.int .i64 ((rd_T28 l0 x16_2).f0))).setCell ⟨gb109, 1, none⟩ (.int .i64 ((rd_T28 l0 x16_2).f1))).setCell ⟨gb109, 2, none⟩ (.int .i64 ((rd_T28 l0 x16_2).f2))).setCell ⟨gb109, 3, none⟩ (.int .i64 ((rd_T28 l0 x16_2).f3))).setCell ⟨gb109, 4, none⟩ (.bool ((rd_T28 l0 x16_2).f4)))) ?hg ?ho ?hn ?hr ?_; (case ho => rfl); (case hg => rfl); (case hn => rfl); (case hr => first | (go_simp; done) | (go_simp; rfl)); intro w19 hw; have n0_ : Aside0 (Kd.R (Kd.int .i64) 3 w19 w.heap.size (fun _ => True) v106 x3_2) := ⟨(by rw [hw]; exact (by (with_reducible repeat (first | apply Kd.R_alloc | apply Kd.R_drewN | apply Kd.R_drew)); exact Kd.R_mono (Kd.R_far (p := ⟨gb109, 4, none⟩) (Kd.R_far (p := ⟨gb109, 3, none⟩) (Kd.R_far (p := ⟨gb109, 2, none⟩) (Kd.R_far (p := ⟨gb109, 1, none⟩) (Kd.R_far (p := ⟨gb109, 0, none⟩) (Kd.R_types HO_3.out BK109.out (by decide)) (fun _ hk => hk.2) (.int .i64 ((rd_T28 l0 x16_2).f0))) (fun _ hk => hk.2) (.int .i64 ((rd_T28 l0 x16_2).f1))) (fun _ hk => hk.2) (.int .i64 ((rd_T28 l0 x16_2).f2))) (fun _ hk => hk.2) (.int .i64 ((rd_T28 l0 x16_2).f3))) (fun _ hk => hk.2) (.bool ((rd_T28 l0 x16_2).f4))) (fun _ hk => trivial)))⟩; have n1_ : Aside0 (w19.heap[gb109]? = some (.cells #[.int .i64 ((rd_T28 l0 x16_2).f0), .int .i64 ((rd_T28 l0 x16_2).f1), .int .i64 ((rd_T28 l0 x16_2).f2), .int .i64 ((rd_T28 l0 x16_2).f3), .bool ((rd_T28 l0 x16_2).f4)] 28 (0, 0))) := ⟨(by rw [hw]; exact (by (with_reducible repeat (first | refine blk_drewN ?_ _ | refine blk_drew ?_ | refine blk_alloc ?_ _)); refine blk_put (cs := #[.int .i64 ((rd_T28 l0 x16_2).f0), .int .i64 ((rd_T28 l0 x16_2).f1), .int .i64 ((rd_T28 l0 x16_2).f2), .int .i64 ((rd_T28 l0 x16_2).f3), .bool false]) ?_ 4 _ rfl; (with_reducible repeat (first | refine blk_drewN ?_ _ | refine blk_drew ?_ | refine blk_alloc ?_ _)); refine blk_put (cs := #[.int .i64 ((rd_T28 l0 x16_2).f0), .int .i64 ((rd_T28 l0 x16_2).f1), .int .i64 ((rd_T28 l0 x16_2).f2), .int .i64 0, .bool false]) ?_ 3 _ rfl; (with_reducible repeat (first | refine blk_drewN ?_ _ | refine blk_drew ?_ | refine blk_alloc ?_ _)); refine blk_put (cs := #[.int .i64 ((rd_T28 l0 x16_2).f0), .int .i64 ((rd_T28 l0 x16_2).f1), .int .i64 0, .int .i64 0, .bool false]) ?_ 2 _ rfl; (with_reducible repeat (first | refine blk_drewN ?_ _ | refine blk_drew ?_ | refine blk_alloc ?_ _)); refine blk_put (cs := #[.int .i64 ((rd_T28 l0 x16_2).f0), .int .i64 0, .int .i64 0, .int .i64 0, .bool false]) ?_ 1 _ rfl; (with_reducible repeat (first | refine blk_drewN ?_ _ | refine blk_drew ?_ | refine blk_alloc ?_ _)); refine blk_put (cs := #[.int .i64 0, .int .i64 0, .int .i64 0, .int .i64 0, .bool false]) ?_ 0 _ rfl; (with_reducible repeat (first | refine blk_drewN ?_ _ | refine blk_drew ?_ | refine blk_alloc ?_ _)); exact BK109.out))⟩; have n2_ : Aside0 (Below w.heap.size w w19) := ⟨(by rw [hw]; exact (by repeat (first | (with_reducible first | exact HB.out | apply below_alloc | apply pw_below_drewN | apply below_drew1 | refine below_set ?_ GE109.out) | exact HB.out)))⟩; clear hw; clear HO_3; clear BK109; clear HB; have HO_3 := n0_; have BK109 := n1_; have HB := n2_; clear n0_ n1_ n2_; obtain ⟨Ao20, co20, eo20⟩ := Kd.R_slice HO_3.out; subst eo20; have p110 : 0 ≤ (x16_2 : Int) := of_decide_eq_true (by first | (with_reducible assumption) | assumption); have q110 : x16_2 < (x3_2.length : Int) := of_decide_eq_true (by first | (with_reducible assumption) | assumption); obtain ⟨ad110, e110, hx110_0⟩ := Kd.at_int (Kd.R_reads' HO_3.out).2.2 x16_2 p110 q110; cases e110; replace p110 := eq_true p110; replace q110 := eq_true q110; have hcz21_0 : w19.cell? ⟨gb109, 0, none⟩ = some (.int .i64 ((rd_T28 l0 x16_2).f0)) := (blk_cell BK109.out 0).trans rfl; have hcz21_1 : w19.cell? ⟨gb109, 1, none⟩ = some (.int .i64 ((rd_T28 l0 x16_2).f1)) := (blk_cell BK109.out 1).trans rfl; have hcz21_2 : w19.cell? ⟨gb109, 2, none⟩ = some (.int .i64 ((rd_T28 l0 x16_2).f2)) := (blk_cell BK109.out 2).trans rfl; have hcz21_3 : w19.cell? ⟨gb109, 3, none⟩ = some (.int .i64 ((rd_T28 l0 x16_2).f3)) := (blk_cell BK109.out 3).trans rfl; have hcz21_4 : w19.cell? ⟨gb109, 4, none⟩ = some (.bool ((rd_T28 l0 x16_2).f4)) := (blk_cell BK109.out 4).trans rfl; have hfz21_0 := blk_frozen BK109.out 0; have hfz21_1 := blk_frozen BK109.out 1; have hfz21_2 := blk_frozen BK109.out 2; have hfz21_3 := blk_frozen BK109.out 3; have hfz21_4 := blk_frozen BK109.out 4) | (go_at_call 26; (with_reducible refine (right_owner.calls ((rd_T28 l0 x16_2).f2) t111 _ A14.out).mono ?_); rintro e w' ⟨rfl, ⟨nd, rfl⟩⟩; (try first | exact ⟨rfl, _, World.drewN_drewN _ _ _⟩ | exact ⟨rfl, _, Eq.trans (World.drewN_drewN _ _ _) (congrArg (World.drewN _) (Nat.add_assoc _ _ _))⟩); have p16 : 0 ≤ (x16_2 : Int) := of_decide_eq_true (by first | (with_reducible assumption) | assumption); have q16 : (x16_2 : Int) < ((x3_2.length : Int) : Int) := of_decide_eq_true (by first | (with_reducible assumption) | assumption); obtain ⟨go16, co16, eo16, gb16, gl16, cl16, HG16⟩ := Kd.R_form HO_3.out (by omega); (first | cases eo16 | (injection eo16 with ea_ en_ ec_; (first | subst ea_ | (injection ea_ with ea_; subst ea_)); subst ec_; clear en_)); have GB16 := Aside0.mk gb16; have GG16 := Aside0.mk HG16; clear gb16 gl16 HG16; (first | simp only [add_plain] at hx110_0 | skip); obtain ⟨hx16_0, hf16_0⟩ := Kd.R_celln 0 HO_3.out (x16_2 : Int) p16 q16; replace p16 := eq_true p16; replace q16 := eq_true q16; obtain ⟨hy22_, hz22_⟩ := Kd.R_celln 0 HO_3.out (x16_2 : Int) (of_decide_eq_true (by first | (with_reducible assumption) | assumption)) (of_decide_eq_true (by first | (with_reducible assumption) | assumption)); have HP22 := Kd.R_putg HO_3.out (x16_2 : Int) 1) | ((with_reducible refine gate_store (t := 3) (p := 34) rfl ?_); (try (rw [drewN_self w19]; generalize hq_ : World.drewN w19 _ = w19; have n0_ := Aside0.mk (Kd.R_at hq_ HO_3.out); have n1_ := Aside0.mk (blk_at hq_ BK109.out); have n2_ := Aside0.mk (below_at hq_ HB.out); clear hq_ HO_3 BK109 HB; have HO_3 := n0_; have BK109 := n1_; have HB := n2_; clear n0_ n1_ n2_; (try (obtain ⟨hy22_, hz22_⟩ := Kd.R_celln 0 HO_3.out (x16_2 : Int) (of_decide_eq_true (by first | (with_reducible assumption) | assumption)) (of_decide_eq_true (by first | (with_reducible assumption) | assumption)))); (try (have HP22 := Kd.R_putg HO_3.out (x16_2 : Int) 1)))); refine store_event (t := 3) (p := 34) (v := ?vo_w23) (w1 := (w19.setCell ⟨go16, (x16_2 : Int).toNat, none⟩ (.int .i64 1))) ?hg ?ho ?hn ?hr ?_; (case ho => rfl); (case hg => rfl); (case hn => rfl); (case hr => first | (go_simp; done) | (go_simp; rfl)); intro w23 hw; have hg : w19.grownBy w23 (some go16) := (by rw [hw]; exact HP22.2); have hp_ : Kd.R (Kd.int .i64) 3 w23 w.heap.size (fun _ => True) (.slice (some ⟨go16, 0, none⟩) x3_2.length co20) y112 := (by rw [hw, Ny112.out]; exact HP22.1); clear HP22; have n0_ := Aside0.mk (hp_); have n1_ := Aside0.mk (blk_grown (g := gb109) (o := .cells #[.int .i64 ((rd_T28 l0 x16_2).f0), .int .i64 ((rd_T28 l0 x16_2).f1), .int .i64 ((rd_T28 l0 x16_2).f2), .int .i64 ((rd_T28 l0 x16_2).f3), .bool ((rd_T28 l0 x16_2).f4)] 28 (0, 0)) (by (with_reducible repeat (first | refine blk_drewN ?_ _ | refine blk_drew ?_ | refine blk_alloc ?_ _)); exact BK109.out) hg (Kd.R_ne HO_3.out BK109.out (by decide))); have n2_ := Aside0.mk ((by rw [hw]; exact below_set (HB.out) GB16.out : Below w.heap.size w w23)); clear HO_3; clear BK109; clear HB; have HO_3 := n0_; have BK109 := n1_; have HB := n2_; clear n0_ n1_ n2_; clear hg hw hp_)); try go_wp2_with (first | ((with_reducible refine gate_dst (N := 5) rfl ?_); refine box_event ?hg (N := 5) ?hd (cs := #[.int .i64 0, .int .i64 0, .int .i64 0, .int .i64 0, .bool false]) (t := 28) ?hr ?_; (case hd => rfl); (case hg => rfl); (case hr => first | (go_simp; done) | (go_simp; rfl)); intro gb109 hg w17 hbox hb; have n0_ := Aside0.mk (Kd.R_below (by (with_reducible repeat (first | apply Kd.R_alloc | apply Kd.R_drewN | apply Kd.R_drew)); exact HO_3.out) hb); have n1_ := Aside0.mk (below_step (by repeat (first | (with_reducible first | exact HB.out | apply below_alloc | apply pw_below_drewN | apply below_drew1) | exact HB.out)) hb); have n2_ := Aside0.mk (hbox); have n3_ := Aside0.mk ((by rw [hg]; exact (below_size (by repeat (first | (with_reducible first | exact HB.out | apply below_alloc | apply pw_below_drewN | apply below_drew1) | exact HB.out))) : w.heap.size ≤ gb109)); have n4_ := Aside0.mk ((by rw [hg]; exact (below_size (by repeat (first | (with_reducible first | exact HB.out | apply below_alloc | apply pw_below_drewN | apply below_drew1) | exact HB.out))) : w.heap.size ≤ gb109)); clear HO_3; clear HB; have HO_3 := n0_; have HB := n1_; have BK109 := n2_; have GW109 := n3_; have GE109 := n4_; clear n0_ n1_ n2_ n3_ n4_; clear hb hbox hg; have hcz18_0 : w17.cell? ⟨gb109, 0, none⟩ = some (.int .i64 0) := (blk_cell BK109.out 0).trans rfl; have hcz18_1 : w17.cell? ⟨gb109, 1, none⟩ = some (.int .i64 0) := (blk_cell BK109.out 1).trans rfl; have hcz18_2 : w17.cell? ⟨gb109, 2, none⟩ = some (.int .i64 0) := (blk_cell BK109.out 2).trans rfl; have hcz18_3 : w17.cell? ⟨gb109, 3, none⟩ = some (.int .i64 0) := (blk_cell BK109.out 3).trans rfl; have hcz18_4 : w17.cell? ⟨gb109, 4, none⟩ = some (.bool false) := (blk_cell BK109.out 4).trans rfl; have hfz18_0 := blk_frozen BK109.out 0; have hfz18_1 := blk_frozen BK109.out 1; have hfz18_2 := blk_frozen BK109.out 2; have hfz18_3 := blk_frozen BK109.out 3; have hfz18_4 := blk_frozen BK109.out 4) | ((with_reducible refine gate_store (t := 28) (p := 5) rfl ?_); (try (rw [drewN_self w17]; generalize hq_ : World.drewN w17 _ = w17; have n0_ := Aside0.mk (Kd.R_at hq_ HO_3.out); have n1_ := Aside0.mk (blk_at hq_ BK109.out); have n2_ := Aside0.mk (below_at hq_ HB.out); clear hq_ HO_3 BK109 HB; have HO_3 := n0_; have BK109 := n1_; have HB := n2_; clear n0_ n1_ n2_)); refine store_event (t := 28) (p := 5) (v := ?vo_w19) (w1 := (((((w17.setCell ⟨gb109, 0, none⟩ (.int .i64 ((rd_T28 l0 x16_2).f0))).setCell ⟨gb109, 1, none⟩ (.int .i64 ((rd_T28 l0 x16_2).f1))).setCell ⟨gb109, 2, none⟩ (.int .i64 ((rd_T28 l0 x16_2).f2))).setCell ⟨gb109, 3, none⟩ (.int .i64 ((rd_T28 l0 x16_2).f3))).setCell ⟨gb109, 4, none⟩ (.bool ((rd_T28 l0 x16_2).f4)))) ?hg ?ho ?hn ?hr ?_; (case ho => rfl); (case hg => rfl); (case hn => rfl); (case hr => first | (go_simp; done) | (go_simp; rfl)); intro w19 hw; have n0_ : Aside0 (Kd.R (Kd.int .i64) 3 w19 w.heap.size (fun _ => True) v106 x3_2) := ⟨(by rw [hw]; exact (by (with_reducible repeat (first | apply Kd.R_alloc | apply Kd.R_drewN | apply Kd.R_drew)); exact Kd.R_mono (Kd.R_far (p := ⟨gb109, 4, none⟩) (Kd.R_far (p := ⟨gb109, 3, none⟩) (Kd.R_far (p := ⟨gb109, 2, none⟩) (Kd.R_far (p := ⟨gb109, 1, none⟩) (Kd.R_far (p := ⟨gb109, 0, none⟩) (Kd.R_types HO_3.out BK109.out (by decide)) (fun _ hk => hk.2) (.int .i64 ((rd_T28 l0 x16_2).f0))) (fun _ hk => hk.2) (.int .i64 ((rd_T28 l0 x16_2).f1))) (fun _ hk => hk.2) (.int .i64 ((rd_T28 l0 x16_2).f2))) (fun _ hk => hk.2) (.int .i64 ((rd_T28 l0 x16_2).f3))) (fun _ hk => hk.2) (.bool ((rd_T28 l0 x16_2).f4))) (fun _ hk => trivial)))⟩; have n1_ : Aside0 (w19.heap[gb109]? = some (.cells #[.int .i64 ((rd_T28 l0 x16_2).f0), .int .i64 ((rd_T28 l0 x16_2).f1), .int .i64 ((rd_T28 l0 x16_2).f2), .int .i64 ((rd_T28 l0 x16_2).f3), .bool ((rd_T28 l0 x16_2).f4)] 28 (0, 0))) := ⟨(by rw [hw]; exact (by (with_reducible repeat (first | refine blk_drewN ?_ _ | refine blk_drew ?_ | refine blk_alloc ?_ _)); refine blk_put (cs := #[.int .i64 ((rd_T28 l0 x16_2).f0), .int .i64 ((rd_T28 l0 x16_2).f1), .int .i64 ((rd_T28 l0 x16_2).f2), .int .i64 ((rd_T28 l0 x16_2).f3), .bool false]) ?_ 4 _ rfl; (with_reducible repeat (first | refine blk_drewN ?_ _ | refine blk_drew ?_ | refine blk_alloc ?_ _)); refine blk_put (cs := #[.int .i64 ((rd_T28 l0 x16_2).f0), .int .i64 ((rd_T28 l0 x16_2).f1), .int .i64 ((rd_T28 l0 x16_2).f2), .int .i64 0, .bool false]) ?_ 3 _ rfl; (with_reducible repeat (first | refine blk_drewN ?_ _ | refine blk_drew ?_ | refine blk_alloc ?_ _)); refine blk_put (cs := #[.int .i64 ((rd_T28 l0 x16_2).f0), .int .i64 ((rd_T28 l0 x16_2).f1), .int .i64 0, .int .i64 0, .bool false]) ?_ 2 _ rfl; (with_reducible repeat (first | refine blk_drewN ?_ _ | refine blk_drew ?_ | refine blk_alloc ?_ _)); refine blk_put (cs := #[.int .i64 ((rd_T28 l0 x16_2).f0), .int .i64 0, .int .i64 0, .int .i64 0, .bool false]) ?_ 1 _ rfl; (with_reducible repeat (first | refine blk_drewN ?_ _ | refine blk_drew ?_ | refine blk_alloc ?_ _)); refine blk_put (cs := #[.int .i64 0, .int .i64 0, .int .i64 0, .int .i64 0, .bool false]) ?_ 0 _ rfl; (with_reducible repeat (first | refine blk_drewN ?_ _ | refine blk_drew ?_ | refine blk_alloc ?_ _)); exact BK109.out))⟩; have n2_ : Aside0 (Below w.heap.size w w19) := ⟨(by rw [hw]; exact (by repeat (first | (with_reducible first | exact HB.out | apply below_alloc | apply pw_below_drewN | apply below_drew1 | refine below_set ?_ GE109.out) | exact HB.out)))⟩; clear hw; clear HO_3; clear BK109; clear HB; have HO_3 := n0_; have BK109 := n1_; have HB := n2_; clear n0_ n1_ n2_; obtain ⟨Ao20, co20, eo20⟩ := Kd.R_slice HO_3.out; subst eo20; have p110 : 0 ≤ (x16_2 : Int) := of_decide_eq_true (by first | (with_reducible assumption) | assumption); have q110 : x16_2 < (x3_2.length : Int) := of_decide_eq_true (by first | (with_reducible assumption) | assumption); obtain ⟨ad110, e110, hx110_0⟩ := Kd.at_int (Kd.R_reads' HO_3.out).2.2 x16_2 p110 q110; cases e110; replace p110 := eq_true p110; replace q110 := eq_true q110; have hcz21_0 : w19.cell? ⟨gb109, 0, none⟩ = some (.int .i64 ((rd_T28 l0 x16_2).f0)) := (blk_cell BK109.out 0).trans rfl; have hcz21_1 : w19.cell? ⟨gb109, 1, none⟩ = some (.int .i64 ((rd_T28 l0 x16_2).f1)) := (blk_cell BK109.out 1).trans rfl; have hcz21_2 : w19.cell? ⟨gb109, 2, none⟩ = some (.int .i64 ((rd_T28 l0 x16_2).f2)) := (blk_cell BK109.out 2).trans rfl; have hcz21_3 : w19.cell? ⟨gb109, 3, none⟩ = some (.int .i64 ((rd_T28 l0 x16_2).f3)) := (blk_cell BK109.out 3).trans rfl; have hcz21_4 : w19.cell? ⟨gb109, 4, none⟩ = some (.bool ((rd_T28 l0 x16_2).f4)) := (blk_cell BK109.out 4).trans rfl; have hfz21_0 := blk_frozen BK109.out 0; have hfz21_1 := blk_frozen BK109.out 1; have hfz21_2 := blk_frozen BK109.out 2; have hfz21_3 := blk_frozen BK109.out 3; have hfz21_4 := blk_frozen BK109.out 4) | (go_at_call 26; (with_reducible refine (right_owner.calls ((rd_T28 l0 x16_2).f2) t111 _ A14.out).mono ?_); rintro e w' ⟨rfl, ⟨nd, rfl⟩⟩; (try first | exact ⟨rfl, _, World.drewN_drewN _ _ _⟩ | exact ⟨rfl, _, Eq.trans (World.drewN_drewN _ _ _) (congrArg (World.drewN _) (Nat.add_assoc _ _ _))⟩); have p16 : 0 ≤ (x16_2 : Int) := of_decide_eq_true (by first | (with_reducible assumption) | assumption); have q16 : (x16_2 : Int) < ((x3_2.length : Int) : Int) := of_decide_eq_true (by first | (with_reducible assumption) | assumption); obtain ⟨go16, co16, eo16, gb16, gl16, cl16, HG16⟩ := Kd.R_form HO_3.out (by omega); (first | cases eo16 | (injection eo16 with ea_ en_ ec_; (first | subst ea_ | (injection ea_ with ea_; subst ea_)); subst ec_; clear en_)); have GB16 := Aside0.mk gb16; have GG16 := Aside0.mk HG16; clear gb16 gl16 HG16; (first | simp only [add_plain] at hx110_0 | skip); obtain ⟨hx16_0, hf16_0⟩ := Kd.R_celln 0 HO_3.out (x16_2 : Int) p16 q16; replace p16 := eq_true p16; replace q16 := eq_true q16; obtain ⟨hy22_, hz22_⟩ := Kd.R_celln 0 HO_3.out (x16_2 : Int) (of_decide_eq_true (by first | (with_reducible assumption) | assumption)) (of_decide_eq_true (by first | (with_reducible assumption) | assumption)); have HP22 := Kd.R_putg HO_3.out (x16_2 : Int) 1) | ((with_reducible refine gate_store (t := 3) (p := 34) rfl ?_); (try (rw [drewN_self w19]; generalize hq_ : World.drewN w19 _ = w19; have n0_ := Aside0.mk (Kd.R_at hq_ HO_3.out); have n1_ := Aside0.mk (blk_at hq_ BK109.out); have n2_ := Aside0.mk (below_at hq_ HB.out); clear hq_ HO_3 BK109 HB; have HO_3 := n0_; have BK109 := n1_; have HB := n2_; clear n0_ n1_ n2_; (try (obtain ⟨hy22_, hz22_⟩ := Kd.R_celln 0 HO_3.out (x16_2 : Int) (of_decide_eq_true (by first | (with_reducible assumption) | assumption)) (of_decide_eq_true (by first | (with_reducible assumption) | assumption)))); (try (have HP22 := Kd.R_putg HO_3.out (x16_2 : Int) 1)))); refine store_event (t := 3) (p := 34) (v := ?vo_w23) (w1 := (w19.setCell ⟨go16, (x16_2 : Int).toNat, none⟩ (.int .i64 1))) ?hg ?ho ?hn ?hr ?_; (case ho => rfl); (case hg => rfl); (case hn => rfl); (case hr => first | (go_simp; done) | (go_simp; rfl)); intro w23 hw; have hg : w19.grownBy w23 (some go16) := (by rw [hw]; exact HP22.2); have hp_ : Kd.R (Kd.int .i64) 3 w23 w.heap.size (fun _ => True) (.slice (some ⟨go16, 0, none⟩) x3_2.length co20) y112 := (by rw [hw, Ny112.out]; exact HP22.1); clear HP22; have n0_ := Aside0.mk (hp_); have n1_ := Aside0.mk (blk_grown (g := gb109) (o := .cells #[.int .i64 ((rd_T28 l0 x16_2).f0), .int .i64 ((rd_T28 l0 x16_2).f1), .int .i64 ((rd_T28 l0 x16_2).f2), .int .i64 ((rd_T28 l0 x16_2).f3), .bool ((rd_T28 l0 x16_2).f4)] 28 (0, 0)) (by (with_reducible repeat (first | refine blk_drewN ?_ _ | refine blk_drew ?_ | refine blk_alloc ?_ _)); exact BK109.out) hg (Kd.R_ne HO_3.out BK109.out (by decide))); have n2_ := Aside0.mk ((by rw [hw]; exact below_set (HB.out) GB16.out : Below w.heap.size w w23)); clear HO_3; clear BK109; clear HB; have HO_3 := n0_; have BK109 := n1_; have HB := n2_; clear n0_ n1_ n2_; clear hg hw hp_)))
             go_step3
             exact ⟨rfl, k2, by have := HK1.out; have := HK2.out; omega, _, (y112), put_u rfl ⟨H', ⟨by have := HK1.out; have := HK2.out; omega⟩, ⟨by (with_reducible repeat (first | apply Kd.R_alloc | apply Kd.R_drewN | apply Kd.R_drew)); exact HO_3.out⟩, ⟨by repeat (first | (with_reducible first | exact HB.out | apply below_alloc | apply pw_below_drewN | apply below_drew1 | refine below_set ?_ GE109.out) | exact HB.out)⟩⟩⟩
            ·rw [if_neg c15] at H
             have c15b0 : (((rd_T28 l0 x16_2).f0) == t111) = false := beq_eq_false_iff_ne.mpr c15
             have c15b1 : (((rd_T28 l0 x16_2).f0) != t111) = true := bne_iff_ne.mpr c15
             have H' := Aside0.mk H
             clear H
             have p108 : 0 ≤ (x16_2 : Int) := of_decide_eq_true (by first | (with_reducible assumption) | assumption)
             have q108 : x16_2 < (l0.length : Int) := of_decide_eq_true (by first | (with_reducible assumption) | assumption)
             obtain ⟨ad108, e108, hx108_0, hx108_1, hx108_2, hx108_3, hx108_4⟩ := at_T28 HR0.out x16_2 p108 q108
             cases e108
             replace hx108_0 := (HB.out.cell (World.block_lt_of_cell? w _ hx108_0)).trans hx108_0
             replace hx108_1 := (HB.out.cell (World.block_lt_of_cell? w _ hx108_1)).trans hx108_1
             replace hx108_2 := (HB.out.cell (World.block_lt_of_cell? w _ hx108_2)).trans hx108_2
             replace hx108_3 := (HB.out.cell (World.block_lt_of_cell? w _ hx108_3)).trans hx108_3
             replace hx108_4 := (HB.out.cell (World.block_lt_of_cell? w _ hx108_4)).trans hx108_4
             replace p108 := eq_true p108
             replace q108 := eq_true q108
             go_wp2_with (first | ((with_reducible refine gate_dst (N := 5) rfl ?_); refine box_event ?hg (N := 5) ?hd (cs := #[.int .i64 0, .int .i64 0, .int .i64 0, .int .i64 0, .bool false]) (t := 28) ?hr ?_; (case hd => rfl); (case hg => rfl); (case hr => first | (go_simp; done) | (go_simp; rfl)); intro gb109 hg w24 hbox hb; have n0_ := Aside0.mk (Kd.R_below (by (with_reducible repeat (first | apply Kd.R_alloc | apply Kd.R_drewN | apply Kd.R_drew)); exact HO_3.out) hb); have n1_ := Aside0.mk (below_step (by repeat (first | (with_reducible first | exact HB.out | apply below_alloc | apply pw_below_drewN | apply below_drew1) | exact HB.out)) hb); have n2_ := Aside0.mk (hbox); have n3_ := Aside0.mk ((by rw [hg]; exact (below_size (by repeat (first | (with_reducible first | exact HB.out | apply below_alloc | apply pw_below_drewN | apply below_drew1) | exact HB.out))) : w.heap.size ≤ gb109)); have n4_ := Aside0.mk ((by rw [hg]; exact (below_size (by repeat (first | (with_reducible first | exact HB.out | apply below_alloc | apply pw_below_drewN | apply below_drew1) | exact HB.out))) : w.heap.size ≤ gb109)); clear HO_3; clear HB; have HO_3 := n0_; have HB := n1_; have BK109 := n2_; have GW109 := n3_; have GE109 := n4_; clear n0_ n1_ n2_ n3_ n4_; clear hb hbox hg; have hcz25_0 : w24.cell? ⟨gb109, 0, none⟩ = some (.int .i64 0) := (blk_cell BK109.out 0).trans rfl; have hcz25_1 : w24.cell? ⟨gb109, 1, none⟩ = some (.int .i64 0) := (blk_cell BK109.out 1).trans rfl; have hcz25_2 : w24.cell? ⟨gb109, 2, none⟩ = some (.int .i64 0) := (blk_cell BK109.out 2).trans rfl; have hcz25_3 : w24.cell? ⟨gb109, 3, none⟩ = some (.int .i64 0) := (blk_cell BK109.out 3).trans rfl; have hcz25_4 : w24.cell? ⟨gb109, 4, none⟩ = some (.bool false) := (blk_cell BK109.out 4).trans rfl; have hfz25_0 := blk_frozen BK109.out 0; have hfz25_1 := blk_frozen BK109.out 1; have hfz25_2 := blk_frozen BK109.out 2; have hfz25_3 := blk_frozen BK109.out 3; have hfz25_4 := blk_frozen BK109.out 4; obtain ⟨Ao26, co26, eo26⟩ := Kd.R_slice HO_3.out; subst eo26; have p110 : 0 ≤ (x16_2 : Int) := of_decide_eq_true (by first | (with_reducible assumption) | assumption); have q110 : x16_2 < (x3_2.length : Int) := of_decide_eq_true (by first | (with_reducible assumption) | assumption); obtain ⟨ad110, e110, hx110_0⟩ := Kd.at_int (Kd.R_reads' HO_3.out).2.2 x16_2 p110 q110; cases e110; have hn110_0 : ad110.block ≠ gb109 := Kd.own_blk (Kd.R_ne HO_3.out BK109.out (by decide)); have hn110_1 : ad110.block ≠ gb109 := Kd.own_blk (Kd.R_ne HO_3.out BK109.out (by decide)); have hn110_2 : ad110.block ≠ gb109 := Kd.own_blk (Kd.R_ne HO_3.out BK109.out (by decide)); have hn110_3 : ad110.block ≠ gb109 := Kd.own_blk (Kd.R_ne HO_3.out BK109.out (by decide)); have hn110_4 : ad110.block ≠ gb109 := Kd.own_blk (Kd.R_ne HO_3.out BK109.out (by decide)); replace hx110_0 := (cell_far (p := ⟨gb109, 0, none⟩) (by first | (rw [add_block]; exact hn110_0) | (show (Addr.add _ _).block ≠ _; rw [add_block]; exact hn110_0) | exact hn110_0) (.int .i64 ((rd_T28 l0 x16_2).f0))).trans hx110_0; replace hx110_0 := (cell_far (p := ⟨gb109, 1, none⟩) (by first | (rw [add_block]; exact hn110_1) | (show (Addr.add _ _).block ≠ _; rw [add_block]; exact hn110_1) | exact hn110_1) (.int .i64 ((rd_T28 l0 x16_2).f1))).trans hx110_0; replace hx110_0 := (cell_far (p := ⟨gb109, 2, none⟩) (by first | (rw [add_block]; exact hn110_2) | (show (Addr.add _ _).block ≠ _; rw [add_block]; exact hn110_2) | exact hn110_2) (.int .i64 ((rd_T28 l0 x16_2).f2))).trans hx110_0; replace hx110_0 := (cell_far (p := ⟨gb109, 3, none⟩) (by first | (rw [add_block]; exact hn110_3) | (show (Addr.add _ _).block ≠ _; rw [add_block]; exact hn110_3) | exact hn110_3) (.int .i64 ((rd_T28 l0 x16_2).f3))).trans hx110_0; replace hx110_0 := (cell_far (p := ⟨gb109, 4, none⟩) (by first | (rw [add_block]; exact hn110_4) | (show (Addr.add _ _).block ≠ _; rw [add_block]; exact hn110_4) | exact hn110_4) (.bool ((rd_T28 l0 x16_2).f4))).trans hx110_0; (try have hy110_0 := fun (n_ : Nat) => (show (((((((w24.drewN n_).setCell ⟨gb109, 0, none⟩ (.int .i64 ((rd_T28 l0 x16_2).f0))).setCell ⟨gb109, 1, none⟩ (.int .i64 ((rd_T28 l0 x16_2).f1))).setCell ⟨gb109, 2, none⟩ (.int .i64 ((rd_T28 l0 x16_2).f2))).setCell ⟨gb109, 3, none⟩ (.int .i64 ((rd_T28 l0 x16_2).f3))).setCell ⟨gb109, 4, none⟩ (.bool ((rd_T28 l0 x16_2).f4)))).cell? _ = some _ from ((congrArg (fun W_ : World => W_.cell? _) (show ((((((w24.drewN n_).setCell ⟨gb109, 0, none⟩ (.int .i64 ((rd_T28 l0 x16_2).f0))).setCell ⟨gb109, 1, none⟩ (.int .i64 ((rd_T28 l0 x16_2).f1))).setCell ⟨gb109, 2, none⟩ (.int .i64 ((rd_T28 l0 x16_2).f2))).setCell ⟨gb109, 3, none⟩ (.int .i64 ((rd_T28 l0 x16_2).f3))).setCell ⟨gb109, 4, none⟩ (.bool ((rd_T28 l0 x16_2).f4))) = World.drewN ((((((w24).setCell ⟨gb109, 0, none⟩ (.int .i64 ((rd_T28 l0 x16_2).f0))).setCell ⟨gb109, 1, none⟩ (.int .i64 ((rd_T28 l0 x16_2).f1))).setCell ⟨gb109, 2, none⟩ (.int .i64 ((rd_T28 l0 x16_2).f2))).setCell ⟨gb109, 3, none⟩ (.int .i64 ((rd_T28 l0 x16_2).f3))).setCell ⟨gb109, 4, none⟩ (.bool ((rd_T28 l0 x16_2).f4))) n_ from by simp only [setCell_dn])).trans ((World.cell?_drewN ((((((w24).setCell ⟨gb109, 0, none⟩ (.int .i64 ((rd_T28 l0 x16_2).f0))).setCell ⟨gb109, 1, none⟩ (.int .i64 ((rd_T28 l0 x16_2).f1))).setCell ⟨gb109, 2, none⟩ (.int .i64 ((rd_T28 l0 x16_2).f2))).setCell ⟨gb109, 3, none⟩ (.int .i64 ((rd_T28 l0 x16_2).f3))).setCell ⟨gb109, 4, none⟩ (.bool ((rd_T28 l0 x16_2).f4))) n_ _).trans hx110_0)))); clear hn110_0; clear hn110_1; clear hn110_2; clear hn110_3; clear hn110_4; replace p110 := eq_true p110; replace q110 := eq_true q110) | (go_at_call 26; (with_reducible refine (right_owner.calls ((rd_T28 l0 x16_2).f2) t111 _ A14.out).mono ?_); rintro e w' ⟨rfl, ⟨nd, rfl⟩⟩; (try first | exact ⟨rfl, _, World.drewN_drewN _ _ _⟩ | exact ⟨rfl, _, Eq.trans (World.drewN_drewN _ _ _) (congrArg (World.drewN _) (Nat.add_assoc _ _ _))⟩)))
             repeat (go_quiet (first | ((with_reducible refine gate_dst (N := 5) rfl ?_); refine box_event ?hg (N := 5) ?hd (cs := #[.int .i64 0, .int .i64 0, .int .i64 0, .int .i64 0, .bool false]) (t := 28) ?hr ?_; (case hd => rfl); (case hg => rfl); (case hr => first | (go_simp; done) | (go_simp; rfl)); intro gb109 hg w24 hbox hb; have n0_ := Aside0.mk (Kd.R_below (by (with_reducible repeat (first | apply Kd.R_alloc | apply Kd.R_drewN | apply Kd.R_drew)); exact HO_3.out) hb); have n1_ := Aside0.mk (below_step (by repeat (first | (with_reducible first | exact HB.out | apply below_alloc | apply pw_below_drewN | apply below_drew1) | exact HB.out)) hb); have n2_ := Aside0.mk (hbox); have n3_ := Aside0.mk ((by rw [hg]; exact (below_size (by repeat (first | (with_reducible first | exact HB.out | apply below_alloc | apply pw_below_drewN | apply below_drew1) | exact HB.out))) : w.heap.size ≤ gb109)); have n4_ := Aside0.mk ((by rw [hg]; exact (below_size (by repeat (first | (with_reducible first | exact HB.out | apply below_alloc | apply pw_below_drewN | apply below_drew1) | exact HB.out))) : w.heap.size ≤ gb109)); clear HO_3; clear HB; have HO_3 := n0_; have HB := n1_; have BK109 := n2_; have GW109 := n3_; have GE109 := n4_; clear n0_ n1_ n2_ n3_ n4_; clear hb hbox hg; have hcz25_0 : w24.cell? ⟨gb109, 0, none⟩ = some (.int .i64 0) := (blk_cell BK109.out 0).trans rfl; have hcz25_1 : w24.cell? ⟨gb109, 1, none⟩ = some (.int .i64 0) := (blk_cell BK109.out 1).trans rfl; have hcz25_2 : w24.cell? ⟨gb109, 2, none⟩ = some (.int .i64 0) := (blk_cell BK109.out 2).trans rfl; have hcz25_3 : w24.cell? ⟨gb109, 3, none⟩ = some (.int .i64 0) := (blk_cell BK109.out 3).trans rfl; have hcz25_4 : w24.cell? ⟨gb109, 4, none⟩ = some (.bool false) := (blk_cell BK109.out 4).trans rfl; have hfz25_0 := blk_frozen BK109.out 0; have hfz25_1 := blk_frozen BK109.out 1; have hfz25_2 := blk_frozen BK109.out 2; have hfz25_3 := blk_frozen BK109.out 3; have hfz25_4 := blk_frozen BK109.out 4; obtain ⟨Ao26, co26, eo26⟩ := Kd.R_slice HO_3.out; subst eo26; have p110 : 0 ≤ (x16_2 : Int) := of_decide_eq_true (by first | (with_reducible assumption) | assumption); have q110 : x16_2 < (x3_2.length : Int) := of_decide_eq_true (by first | (with_reducible assumption) | assumption); obtain ⟨ad110, e110, hx110_0⟩ := Kd.at_int (Kd.R_reads' HO_3.out).2.2 x16_2 p110 q110; cases e110; have hn110_0 : ad110.block ≠ gb109 := Kd.own_blk (Kd.R_ne HO_3.out BK109.out (by decide)); have hn110_1 : ad110.block ≠ gb109 := Kd.own_blk (Kd.R_ne HO_3.out BK109.out (by decide)); have hn110_2 : ad110.block ≠ gb109 := Kd.own_blk (Kd.R_ne HO_3.out BK109.out (by decide)); have hn110_3 : ad110.block ≠ gb109 := Kd.own_blk (Kd.R_ne HO_3.out BK109.out (by decide)); have hn110_4 : ad110.block ≠ gb109 := Kd.own_blk (Kd.R_ne HO_3.out BK109.out (by decide)); replace hx110_0 := (cell_far (p := ⟨gb109, 0, none⟩) (by first | (rw [add_block]; exact hn110_0) | (show (Addr.add _ _).block ≠ _; rw [add_block]; exact hn110_0) | exact hn110_0) (.int .i64 ((rd_T28 l0 x16_2).f0))).trans hx110_0; replace hx110_0 := (cell_far (p := ⟨gb109, 1, none⟩) (by first | (rw [add_block]; exact hn110_1) | (show (Addr.add _ _).block ≠ _; rw [add_block]; exact hn110_1) | exact hn110_1) (.int .i64 ((rd_T28 l0 x16_2).f1))).trans hx110_0; replace hx110_0 := (cell_far (p := ⟨gb109, 2, none⟩) (by first | (rw [add_block]; exact hn110_2) | (show (Addr.add _ _).block ≠ _; rw [add_block]; exact hn110_2) | exact hn110_2) (.int .i64 ((rd_T28 l0 x16_2).f2))).trans hx110_0; replace hx110_0 := (cell_far (p := ⟨gb109, 3, none⟩) (by first | (rw [add_block]; exact hn110_3) | (show (Addr.add _ _).block ≠ _; rw [add_block]; exact hn110_3) | exact hn110_3) (.int .i64 ((rd_T28 l0 x16_2).f3))).trans hx110_0; replace hx110_0 := (cell_far (p := ⟨gb109, 4, none⟩) (by first | (rw [add_block]; exact hn110_4) | (show (Addr.add _ _).block ≠ _; rw [add_block]; exact hn110_4) | exact hn110_4) (.bool ((rd_T28 l0 x16_2).f4))).trans hx110_0; (try have hy110_0 := fun (n_ : Nat) => (show (((((((w24.drewN n_).setCell ⟨gb109, 0, none⟩ (.int .i64 ((rd_T28 l0 x16_2).f0))).setCell ⟨gb109, 1, none⟩ (.int .i64 ((rd_T28 l0 x16_2).f1))).setCell ⟨gb109, 2, none⟩ (.int .i64 ((rd_T28 l0 x16_2).f2))).setCell ⟨gb109, 3, none⟩ (.int .i64 ((rd_T28 l0 x16_2).f3))).setCell ⟨gb109, 4, none⟩ (.bool ((rd_T28 l0 x16_2).f4)))).cell? _ = some _ from ((congrArg (fun W_ : World => W_.cell? _) (show ((((((w24.drewN n_).setCell ⟨gb109, 0, none⟩ (.int .i64 ((rd_T28 l0 x16_2).f0))).setCell ⟨gb109, 1, none⟩ (.int .i64 ((rd_T28 l0 x16_2).f1))).setCell ⟨gb109, 2, none⟩ (.int .i64 ((rd_T28 l0 x16_2).f2))).setCell ⟨gb109, 3, none⟩ (.int .i64 ((rd_T28 l0 x16_2).f3))).setCell ⟨gb109, 4, none⟩ (.bool ((rd_T28 l0 x16_2).f4))) = World.drewN ((((((w24).setCell ⟨gb109, 0, none⟩ (.int .i64 ((rd_T28 l0 x16_2).f0))).setCell ⟨gb109, 1, none⟩ (.int .i64 ((rd_T28 l0 x16_2).f1))).setCell ⟨gb109, 2, none⟩ (.int .i64 ((rd_T28 l0 x16_2).f2))).setCell ⟨gb109, 3, none⟩ (.int .i64 ((rd_T28 l0 x16_2).f3))).setCell ⟨gb109, 4, none⟩ (.bool ((rd_T28 l0 x16_2).f4))) n_ from by simp only [setCell_dn])).trans ((World.cell?_drewN ((((((w24).setCell ⟨gb109, 0, none⟩ (.int .i64 ((rd_T28 l0 x16_2).f0))).setCell ⟨gb109, 1, none⟩ (.int .i64 ((rd_T28 l0 x16_2).f1))).setCell ⟨gb109, 2, none⟩ (.int .i64 ((rd_T28 l0 x16_2).f2))).setCell ⟨gb109, 3, none⟩ (.int .i64 ((rd_T28 l0 x16_2).f3))).setCell ⟨gb109, 4, none⟩ (.bool ((rd_T28 l0 x16_2).f4))) n_ _).trans hx110_0)))); clear hn110_0; clear hn110_1; clear hn110_2; clear hn110_3; clear hn110_4; replace p110 := eq_true p110; replace q110 := eq_true q110) | (go_at_call 26; (with_reducible refine (right_owner.calls ((rd_T28 l0 x16_2).f2) t111 _ A14.out).mono ?_); rintro e w' ⟨rfl, ⟨nd, rfl⟩⟩; (try first | exact ⟨rfl, _, World.drewN_drewN _ _ _⟩ | exact ⟨rfl, _, Eq.trans (World.drewN_drewN _ _ _) (congrArg (World.drewN _) (Nat.add_assoc _ _ _))⟩))); try go_wp2_with (first | ((with_reducible refine gate_dst (N := 5) rfl ?_); refine box_event ?hg (N := 5) ?hd (cs := #[.int .i64 0, .int .i64 0, .int .i64 0, .int .i64 0, .bool false]) (t := 28) ?hr ?_; (case hd => rfl); (case hg => rfl); (case hr => first | (go_simp; done) | (go_simp; rfl)); intro gb109 hg w24 hbox hb; have n0_ := Aside0.mk (Kd.R_below (by (with_reducible repeat (first | apply Kd.R_alloc | apply Kd.R_drewN | apply Kd.R_drew)); exact HO_3.out) hb); have n1_ := Aside0.mk (below_step (by repeat (first | (with_reducible first | exact HB.out | apply below_alloc | apply pw_below_drewN | apply below_drew1) | exact HB.out)) hb); have n2_ := Aside0.mk (hbox); have n3_ := Aside0.mk ((by rw [hg]; exact (below_size (by repeat (first | (with_reducible first | exact HB.out | apply below_alloc | apply pw_below_drewN | apply below_drew1) | exact HB.out))) : w.heap.size ≤ gb109)); have n4_ := Aside0.mk ((by rw [hg]; exact (below_size (by repeat (first | (with_reducible first | exact HB.out | apply below_alloc | apply pw_below_drewN | apply below_drew1) | exact HB.out))) : w.heap.size ≤ gb109)); clear HO_3; clear HB; have HO_3 := n0_; have HB := n1_; have BK109 := n2_; have GW109 := n3_; have GE109 := n4_; clear n0_ n1_ n2_ n3_ n4_; clear hb hbox hg; have hcz25_0 : w24.cell? ⟨gb109, 0, none⟩ = some (.int .i64 0) := (blk_cell BK109.out 0).trans rfl; have hcz25_1 : w24.cell? ⟨gb109, 1, none⟩ = some (.int .i64 0) := (blk_cell BK109.out 1).trans rfl; have hcz25_2 : w24.cell? ⟨gb109, 2, none⟩ = some (.int .i64 0) := (blk_cell BK109.out 2).trans rfl; have hcz25_3 : w24.cell? ⟨gb109, 3, none⟩ = some (.int .i64 0) := (blk_cell BK109.out 3).trans rfl; have hcz25_4 : w24.cell? ⟨gb109, 4, none⟩ = some (.bool false) := (blk_cell BK109.out 4).trans rfl; have hfz25_0 := blk_frozen BK109.out 0; have hfz25_1 := blk_frozen BK109.out 1; have hfz25_2 := blk_frozen BK109.out 2; have hfz25_3 := blk_frozen BK109.out 3; have hfz25_4 := blk_frozen BK109.out 4; obtain ⟨Ao26, co26, eo26⟩ := Kd.R_slice HO_3.out; subst eo26; have p110 : 0 ≤ (x16_2 : Int) := of_decide_eq_true (by first | (with_reducible assumption) | assumption); have q110 : x16_2 < (x3_2.length : Int) := of_decide_eq_true (by first | (with_reducible assumption) | assumption); obtain ⟨ad110, e110, hx110_0⟩ := Kd.at_int (Kd.R_reads' HO_3.out).2.2 x16_2 p110 q110; cases e110; have hn110_0 : ad110.block ≠ gb109 := Kd.own_blk (Kd.R_ne HO_3.out BK109.out (by decide)); have hn110_1 : ad110.block ≠ gb109 := Kd.own_blk (Kd.R_ne HO_3.out BK109.out (by decide)); have hn110_2 : ad110.block ≠ gb109 := Kd.own_blk (Kd.R_ne HO_3.out BK109.out (by decide)); have hn110_3 : ad110.block ≠ gb109 := Kd.own_blk (Kd.R_ne HO_3.out BK109.out (by decide)); have hn110_4 : ad110.block ≠ gb109 := Kd.own_blk (Kd.R_ne HO_3.out BK109.out (by decide)); replace hx110_0 := (cell_far (p := ⟨gb109, 0, none⟩) (by first | (rw [add_block]; exact hn110_0) | (show (Addr.add _ _).block ≠ _; rw [add_block]; exact hn110_0) | exact hn110_0) (.int .i64 ((rd_T28 l0 x16_2).f0))).trans hx110_0; replace hx110_0 := (cell_far (p := ⟨gb109, 1, none⟩) (by first | (rw [add_block]; exact hn110_1) | (show (Addr.add _ _).block ≠ _; rw [add_block]; exact hn110_1) | exact hn110_1) (.int .i64 ((rd_T28 l0 x16_2).f1))).trans hx110_0; replace hx110_0 := (cell_far (p := ⟨gb109, 2, none⟩) (by first | (rw [add_block]; exact hn110_2) | (show (Addr.add _ _).block ≠ _; rw [add_block]; exact hn110_2) | exact hn110_2) (.int .i64 ((rd_T28 l0 x16_2).f2))).trans hx110_0; replace hx110_0 := (cell_far (p := ⟨gb109, 3, none⟩) (by first | (rw [add_block]; exact hn110_3) | (show (Addr.add _ _).block ≠ _; rw [add_block]; exact hn110_3) | exact hn110_3) (.int .i64 ((rd_T28 l0 x16_2).f3))).trans hx110_0; replace hx110_0 := (cell_far (p := ⟨gb109, 4, none⟩) (by first | (rw [add_block]; exact hn110_4) | (show (Addr.add _ _).block ≠ _; rw [add_block]; exact hn110_4) | exact hn110_4) (.bool ((rd_T28 l0 x16_2).f4))).trans hx110_0; (try have hy110_0 := fun (n_ : Nat) => (show (((((((w24.drewN n_).setCell ⟨gb109, 0, none⟩ (.int .i64 ((rd_T28 l0 x16_2).f0))).setCell ⟨gb109, 1, none⟩ (.int .i64 ((rd_T28 l0 x16_2).f1))).setCell ⟨gb109, 2, none⟩ (.int .i64 ((rd_T28 l0 x16_2).f2))).setCell ⟨gb109, 3, none⟩ (.int .i64 ((rd_T28 l0 x16_2).f3))).setCell ⟨gb109, 4, none⟩ (.bool ((rd_T28 l0 x16_2).f4)))).cell? _ = some _ from ((congrArg (fun W_ : World => W_.cell? _) (show ((((((w24.drewN n_).setCell ⟨gb109, 0, none⟩ (.int .i64 ((rd_T28 l0 x16_2).f0))).setCell ⟨gb109, 1, none⟩ (.int .i64 ((rd_T28 l0 x16_2).f1))).setCell ⟨gb109, 2, none⟩ (.int .i64 ((rd_T28 l0 x16_2).f2))).setCell ⟨gb109, 3, none⟩ (.int .i64 ((rd_T28 l0 x16_2).f3))).setCell ⟨gb109, 4, none⟩ (.bool ((rd_T28 l0 x16_2).f4))) = World.drewN ((((((w24).setCell ⟨gb109, 0, none⟩ (.int .i64 ((rd_T28 l0 x16_2).f0))).setCell ⟨gb109, 1, none⟩ (.int .i64 ((rd_T28 l0 x16_2).f1))).setCell ⟨gb109, 2, none⟩ (.int .i64 ((rd_T28 l0 x16_2).f2))).setCell ⟨gb109, 3, none⟩ (.int .i64 ((rd_T28 l0 x16_2).f3))).setCell ⟨gb109, 4, none⟩ (.bool ((rd_T28 l0 x16_2).f4))) n_ from by simp only [setCell_dn])).trans ((World.cell?_drewN ((((((w24).setCell ⟨gb109, 0, none⟩ (.int .i64 ((rd_T28 l0 x16_2).f0))).setCell ⟨gb109, 1, none⟩ (.int .i64 ((rd_T28 l0 x16_2).f1))).setCell ⟨gb109, 2, none⟩ (.int .i64 ((rd_T28 l0 x16_2).f2))).setCell ⟨gb109, 3, none⟩ (.int .i64 ((rd_T28 l0 x16_2).f3))).setCell ⟨gb109, 4, none⟩ (.bool ((rd_T28 l0 x16_2).f4))) n_ _).trans hx110_0)))); clear hn110_0; clear hn110_1; clear hn110_2; clear hn110_3; clear hn110_4; replace p110 := eq_true p110; replace q110 := eq_true q110) | (go_at_call 26; (with_reducible refine (right_owner.calls ((rd_T28 l0 x16_2).f2) t111 _ A14.out).mono ?_); rintro e w' ⟨rfl, ⟨nd, rfl⟩⟩; (try first | exact ⟨rfl, _, World.drewN_drewN _ _ _⟩ | exact ⟨rfl, _, Eq.trans (World.drewN_drewN _ _ _) (congrArg (World.drewN _) (Nat.add_assoc _ _ _))⟩))))
             go_loopg [37] k2 (fun kq v37 w' => ∃ (x3_3 : List Int) (x37_3 : Int), v37 = .int .i64 x37_3 ∧ Aside0 (right_held.l2 kq l0 x3_3 x16_2 l0 (l0.length : Int) x16_2 l0 (l0.length : Int) x37_3 ((rd_T28 l0 x16_2).f0) ((rd_T28 l0 x16_2).f1) ((rd_T28 l0 x16_2).f2) ((rd_T28 l0 x16_2).f3) ((rd_T28 l0 x16_2).f4) = some r) ∧ Aside0 (kq ≤ k2) ∧ Aside0 (Kd.R (Kd.int .i64) 3 w' w.heap.size (fun _ => True) (.slice (some ad110) x3_2.length co26) x3_3) ∧ Aside0 (w'.heap[gb109]? = some (.cells #[.int .i64 ((rd_T28 l0 x16_2).f0), .int .i64 ((rd_T28 l0 x16_2).f1), .int .i64 ((rd_T28 l0 x16_2).f2), .int .i64 ((rd_T28 l0 x16_2).f3), .bool ((rd_T28 l0 x16_2).f4)] 28 (0, 0))) ∧ Aside0 (Below w.heap.size w w'))
             case atStart => exact ⟨(x3_2), (0), (by first | rfl | (simp; done) | (simp [*]; done)), H', ⟨Nat.le_refl _⟩, ⟨by (with_reducible repeat (first | apply Kd.R_alloc | apply Kd.R_drewN | apply Kd.R_drew)); exact Kd.R_mono (Kd.R_far (p := ⟨gb109, 4, none⟩) (Kd.R_far (p := ⟨gb109, 3, none⟩) (Kd.R_far (p := ⟨gb109, 2, none⟩) (Kd.R_far (p := ⟨gb109, 1, none⟩) (Kd.R_far (p := ⟨gb109, 0, none⟩) (Kd.R_types HO_3.out BK109.out (by decide)) (fun _ hk => hk.2) (.int .i64 ((rd_T28 l0 x16_2).f0))) (fun _ hk => hk.2) (.int .i64 ((rd_T28 l0 x16_2).f1))) (fun _ hk => hk.2) (.int .i64 ((rd_T28 l0 x16_2).f2))) (fun _ hk => hk.2) (.int .i64 ((rd_T28 l0 x16_2).f3))) (fun _ hk => hk.2) (.bool ((rd_T28 l0 x16_2).f4))) (fun _ hk => trivial)⟩, ⟨by (with_reducible repeat (first | refine blk_drewN ?_ _ | refine blk_drew ?_ | refine blk_alloc ?_ _)); refine blk_put (cs := #[.int .i64 ((rd_T28 l0 x16_2).f0), .int .i64 ((rd_T28 l0 x16_2).f1), .int .i64 ((rd_T28 l0 x16_2).f2), .int .i64 ((rd_T28 l0 x16_2).f3), .bool false]) ?_ 4 _ rfl; (with_reducible repeat (first | refine blk_drewN ?_ _ | refine blk_drew ?_ | refine blk_alloc ?_ _)); refine blk_put (cs := #[.int .i64 ((rd_T28 l0 x16_2).f0), .int .i64 ((rd_T28 l0 x16_2).f1), .int .i64 ((rd_T28 l0 x16_2).f2), .int .i64 0, .bool false]) ?_ 3 _ rfl; (with_reducible repeat (first | refine blk_drewN ?_ _ | refine blk_drew ?_ | refine blk_alloc ?_ _)); refine blk_put (cs := #[.int .i64 ((rd_T28 l0 x16_2).f0), .int .i64 ((rd_T28 l0 x16_2).f1), .int .i64 0, .int .i64 0, .bool false]) ?_ 2 _ rfl; (with_reducible repeat (first | refine blk_drewN ?_ _ | refine blk_drew ?_ | refine blk_alloc ?_ _)); refine blk_put (cs := #[.int .i64 ((rd_T28 l0 x16_2).f0), .int .i64 0, .int .i64 0, .int .i64 0, .bool false]) ?_ 1 _ rfl; (with_reducible repeat (first | refine blk_drewN ?_ _ | refine blk_drew ?_ | refine blk_alloc ?_ _)); refine blk_put (cs := #[.int .i64 0, .int .i64 0, .int .i64 0, .int .i64 0, .bool false]) ?_ 0 _ rfl; (with_reducible repeat (first | refine blk_drewN ?_ _ | refine blk_drew ?_ | refine blk_alloc ?_ _)); exact BK109.out⟩, ⟨by repeat (first | (with_reducible first | exact HB.out | apply below_alloc | apply pw_below_drewN | apply below_drew1 | refine below_set ?_ GE109.out) | exact HB.out)⟩⟩
             case round =>
              clear H'
              try clear c1
              try clear p1
              try clear q1
              try clear hx1
              try clear hf1
              try clear c2
              try clear c2b0
              try clear c2b1
              try clear p2
              try clear c3
              try clear c3b0
              try clear c3b1
              try clear c6
              try clear c6b0
              try clear p6
              try clear c7
              try clear c7b0
              try clear c8
              try clear c8b0
              try clear c9
              try clear c9b0
              try clear c10
              try clear c10b0
              try clear c10b1
              try clear p10
              try clear q10
              try clear hx10
              try clear p11
              try clear q11
              try clear hx11
              try clear c15
              try clear c15b0
              try clear c15b1
              try clear p16
              try clear q16
              try clear hx16
              try clear hf16
              try clear c24
              try clear hcz12_0
              try clear hcz12_1
              try clear hcz12_2
              try clear hcz12_3
              try clear hcz12_4
              try clear hcz18_0
              try clear hcz18_1
              try clear hcz18_2
              try clear hcz18_3
              try clear hcz18_4
              try clear hcz21_0
              try clear hcz21_1
              try clear hcz21_2
              try clear hcz21_3
              try clear hcz21_4
              try clear hcz25_0
              try clear hcz25_1
              try clear hcz25_2
              try clear hcz25_3
              try clear hcz25_4
              try clear hfz12_0
              try clear hfz12_1
              try clear hfz12_2
              try clear hfz12_3
              try clear hfz12_4
              try clear hfz18_0
              try clear hfz18_1
              try clear hfz18_2
              try clear hfz18_3
              try clear hfz18_4
              try clear hfz21_0
              try clear hfz21_1
              try clear hfz21_2
              try clear hfz21_3
              try clear hfz21_4
              try clear hfz25_0
              try clear hfz25_1
              try clear hfz25_2
              try clear hfz25_3
              try clear hfz25_4
              try clear hx108_0
              try clear hx108_1
              try clear hx108_2
              try clear hx108_3
              try clear hx108_4
              try clear hx110_0
              try clear hx16_0
              try clear p108
              try clear p110
              try clear p16
              try clear p2
              try clear q108
              try clear q110
              try clear q16
              obtain ⟨x3_3, x37_3, rfl, HA, HK3, HO_3, BK109, HB⟩ := hrel
              have hl3_3 := (Kd.R_reads' HO_3.out).1
              rw [hl3_3] at HO_3
              (try simp only [hl3_3])
              (try simp only [hl3_3] at BK109)
              cases gk with
              | zero => exact absurd HA.out (by simp [right_held.l2])
              | succ k3 =>
               have H := HA.out
               clear HA
               simp only [right_held.l2] at H
               by_cases c27 : x37_3 < (l0.length : Int)
               ·rw [if_pos c27] at H
                have c27b0 : decide (x37_3 < (l0.length : Int)) = true := decide_eq_true c27
                (try (have c27z0_0 := c27b0; simp only [hl3_3] at c27z0_0))
                clear c27
                by_cases c28 : 0 ≤ x37_3
                ·rw [if_pos c28] at H
                 have c28b0 : decide (0 ≤ x37_3) = true := decide_eq_true c28
                 (try (have c28z0_0 := c28b0; simp only [hl3_3] at c28z0_0))
                 clear c28
                 by_cases c29 : x37_3 < (l0.length : Int)
                 ·rw [if_pos c29] at H
                  have c29b0 : decide (x37_3 < (l0.length : Int)) = true := decide_eq_true c29
                  (try (have c29z0_0 := c29b0; simp only [hl3_3] at c29z0_0))
                  clear c29
                  have HC30 := Aside0.mk H
                  clear H
                  have p113 : 0 ≤ (x37_3 : Int) := of_decide_eq_true (by first | (with_reducible assumption) | assumption)
                  have q113 : x37_3 < (l0.length : Int) := of_decide_eq_true (by first | (with_reducible assumption) | assumption)
                  obtain ⟨ad113, e113, hx113_0, hx113_1, hx113_2, hx113_3, hx113_4⟩ := at_T28 HR0.out x37_3 p113 q113
                  obtain rfl : ad108 = ad113 := (by injection e113)
                  replace hx113_0 := (HB.out.cell (World.block_lt_of_cell? w _ hx113_0)).trans hx113_0
                  replace hx113_1 := (HB.out.cell (World.block_lt_of_cell? w _ hx113_1)).trans hx113_1
                  replace hx113_2 := (HB.out.cell (World.block_lt_of_cell? w _ hx113_2)).trans hx113_2
                  replace hx113_3 := (HB.out.cell (World.block_lt_of_cell? w _ hx113_3)).trans hx113_3
                  replace hx113_4 := (HB.out.cell (World.block_lt_of_cell? w _ hx113_4)).trans hx113_4
                  replace p113 := eq_true p113
                  replace q113 := eq_true q113
                  go_upto_region 11 with (first | ((with_reducible refine gate_dst (N := 7) rfl ?_); refine box_event ?hg (N := 7) ?hd (cs := #[.int .i64 0, .int .i64 0, .int .i64 0, .int .i64 0, .bool false]) (t := 28) ?hr ?_; (case hd => rfl); (case hg => rfl); (case hr => first | (go_simp; done) | (go_simp; rfl)); intro gb114 hg w31 hbox hb; have n0_ := Aside0.mk (Kd.R_below (by (with_reducible repeat (first | apply Kd.R_alloc | apply Kd.R_drewN | apply Kd.R_drew)); exact HO_3.out) hb); have n1_ := Aside0.mk (blk_below (g := gb109) (o := .cells #[.int .i64 ((rd_T28 l0 x16_2).f0), .int .i64 ((rd_T28 l0 x16_2).f1), .int .i64 ((rd_T28 l0 x16_2).f2), .int .i64 ((rd_T28 l0 x16_2).f3), .bool ((rd_T28 l0 x16_2).f4)] 28 (0, 0)) (by (with_reducible repeat (first | refine blk_drewN ?_ _ | refine blk_drew ?_ | refine blk_alloc ?_ _)); exact BK109.out) hb); have n2_ := Aside0.mk (below_step (by repeat (first | (with_reducible first | exact HB.out | apply below_alloc | apply pw_below_drewN | apply below_drew1 | refine below_set ?_ GE109.out) | exact HB.out)) hb); have n3_ := Aside0.mk (hbox); have n4_ := Aside0.mk ((by rw [hg]; exact (below_size (by repeat (first | (with_reducible first | exact HB.out | apply below_alloc | apply pw_below_drewN | apply below_drew1 | refine below_set ?_ GE109.out) | exact HB.out))) : w.heap.size ≤ gb114)); have n5_ := Aside0.mk ((by rw [hg]; exact (below_size (by repeat (first | (with_reducible first | exact HB.out | apply below_alloc | apply pw_below_drewN | apply below_drew1 | refine below_set ?_ GE109.out) | exact HB.out))) : w.heap.size ≤ gb114)); have n6_ := Aside0.mk ((by rw [hg]; exact Nat.ne_of_lt (blk_lt (g := gb109) (o := .cells #[.int .i64 ((rd_T28 l0 x16_2).f0), .int .i64 ((rd_T28 l0 x16_2).f1), .int .i64 ((rd_T28 l0 x16_2).f2), .int .i64 ((rd_T28 l0 x16_2).f3), .bool ((rd_T28 l0 x16_2).f4)] 28 (0, 0)) (by (with_reducible repeat (first | refine blk_drewN ?_ _ | refine blk_drew ?_ | refine blk_alloc ?_ _)); exact BK109.out)) : gb109 ≠ gb114)); have n7_ := Aside0.mk ((by rw [hg]; exact Nat.ne_of_gt (blk_lt (g := gb109) (o := .cells #[.int .i64 ((rd_T28 l0 x16_2).f0), .int .i64 ((rd_T28 l0 x16_2).f1), .int .i64 ((rd_T28 l0 x16_2).f2), .int .i64 ((rd_T28 l0 x16_2).f3), .bool ((rd_T28 l0 x16_2).f4)] 28 (0, 0)) (by (with_reducible repeat (first | refine blk_drewN ?_ _ | refine blk_drew ?_ | refine blk_alloc ?_ _)); exact BK109.out)) : gb114 ≠ gb109)); clear HO_3; clear BK109; clear HB; have HO_3 := n0_; have BK109 := n1_; have HB := n2_; have BK114 := n3_; have GW114 := n4_; have GE114 := n5_; have NB109_114 := n6_; have NB114_109 := n7_; clear n0_ n1_ n2_ n3_ n4_ n5_ n6_ n7_; clear hb hbox hg; have hnb32 := NB114_109.out; have hnc32 := NB109_114.out; have hcz33_0 : w31.cell? ⟨gb114, 0, none⟩ = some (.int .i64 0) := (blk_cell BK114.out 0).trans rfl; have hcz33_1 : w31.cell? ⟨gb114, 1, none⟩ = some (.int .i64 0) := (blk_cell BK114.out 1).trans rfl; have hcz33_2 : w31.cell? ⟨gb114, 2, none⟩ = some (.int .i64 0) := (blk_cell BK114.out 2).trans rfl; have hcz33_3 : w31.cell? ⟨gb114, 3, none⟩ = some (.int .i64 0) := (blk_cell BK114.out 3).trans rfl; have hcz33_4 : w31.cell? ⟨gb114, 4, none⟩ = some (.bool false) := (blk_cell BK114.out 4).trans rfl; have hfz33_0 := blk_frozen BK114.out 0; have hfz33_1 := blk_frozen BK114.out 1; have hfz33_2 := blk_frozen BK114.out 2; have hfz33_3 := blk_frozen BK114.out 3; have hfz33_4 := blk_frozen BK114.out 4))
                  repeat (go_quiet (first | ((with_reducible refine gate_dst (N := 7) rfl ?_); refine box_event ?hg (N := 7) ?hd (cs := #[.int .i64 0, .int .i64 0, .int .i64 0, .int .i64 0, .bool false]) (t := 28) ?hr ?_; (case hd => rfl); (case hg => rfl); (case hr => first | (go_simp; done) | (go_simp; rfl)); intro gb114 hg w31 hbox hb; have n0_ := Aside0.mk (Kd.R_below (by (with_reducible repeat (first | apply Kd.R_alloc | apply Kd.R_drewN | apply Kd.R_drew)); exact HO_3.out) hb); have n1_ := Aside0.mk (blk_below (g := gb109) (o := .cells #[.int .i64 ((rd_T28 l0 x16_2).f0), .int .i64 ((rd_T28 l0 x16_2).f1), .int .i64 ((rd_T28 l0 x16_2).f2), .int .i64 ((rd_T28 l0 x16_2).f3), .bool ((rd_T28 l0 x16_2).f4)] 28 (0, 0)) (by (with_reducible repeat (first | refine blk_drewN ?_ _ | refine blk_drew ?_ | refine blk_alloc ?_ _)); exact BK109.out) hb); have n2_ := Aside0.mk (below_step (by repeat (first | (with_reducible first | exact HB.out | apply below_alloc | apply pw_below_drewN | apply below_drew1 | refine below_set ?_ GE109.out) | exact HB.out)) hb); have n3_ := Aside0.mk (hbox); have n4_ := Aside0.mk ((by rw [hg]; exact (below_size (by repeat (first | (with_reducible first | exact HB.out | apply below_alloc | apply pw_below_drewN | apply below_drew1 | refine below_set ?_ GE109.out) | exact HB.out))) : w.heap.size ≤ gb114)); have n5_ := Aside0.mk ((by rw [hg]; exact (below_size (by repeat (first | (with_reducible first | exact HB.out | apply below_alloc | apply pw_below_drewN | apply below_drew1 | refine below_set ?_ GE109.out) | exact HB.out))) : w.heap.size ≤ gb114)); have n6_ := Aside0.mk ((by rw [hg]; exact Nat.ne_of_lt (blk_lt (g := gb109) (o := .cells #[.int .i64 ((rd_T28 l0 x16_2).f0), .int .i64 ((rd_T28 l0 x16_2).f1), .int .i64 ((rd_T28 l0 x16_2).f2), .int .i64 ((rd_T28 l0 x16_2).f3), .bool ((rd_T28 l0 x16_2).f4)] 28 (0, 0)) (by (with_reducible repeat (first | refine blk_drewN ?_ _ | refine blk_drew ?_ | refine blk_alloc ?_ _)); exact BK109.out)) : gb109 ≠ gb114)); have n7_ := Aside0.mk ((by rw [hg]; exact Nat.ne_of_gt (blk_lt (g := gb109) (o := .cells #[.int .i64 ((rd_T28 l0 x16_2).f0), .int .i64 ((rd_T28 l0 x16_2).f1), .int .i64 ((rd_T28 l0 x16_2).f2), .int .i64 ((rd_T28 l0 x16_2).f3), .bool ((rd_T28 l0 x16_2).f4)] 28 (0, 0)) (by (with_reducible repeat (first | refine blk_drewN ?_ _ | refine blk_drew ?_ | refine blk_alloc ?_ _)); exact BK109.out)) : gb114 ≠ gb109)); clear HO_3; clear BK109; clear HB; have HO_3 := n0_; have BK109 := n1_; have HB := n2_; have BK114 := n3_; have GW114 := n4_; have GE114 := n5_; have NB109_114 := n6_; have NB114_109 := n7_; clear n0_ n1_ n2_ n3_ n4_ n5_ n6_ n7_; clear hb hbox hg; have hnb32 := NB114_109.out; have hnc32 := NB109_114.out; have hcz33_0 : w31.cell? ⟨gb114, 0, none⟩ = some (.int .i64 0) := (blk_cell BK114.out 0).trans rfl; have hcz33_1 : w31.cell? ⟨gb114, 1, none⟩ = some (.int .i64 0) := (blk_cell BK114.out 1).trans rfl; have hcz33_2 : w31.cell? ⟨gb114, 2, none⟩ = some (.int .i64 0) := (blk_cell BK114.out 2).trans rfl; have hcz33_3 : w31.cell? ⟨gb114, 3, none⟩ = some (.int .i64 0) := (blk_cell BK114.out 3).trans rfl; have hcz33_4 : w31.cell? ⟨gb114, 4, none⟩ = some (.bool false) := (blk_cell BK114.out 4).trans rfl; have hfz33_0 := blk_frozen BK114.out 0; have hfz33_1 := blk_frozen BK114.out 1; have hfz33_2 := blk_frozen BK114.out 2; have hfz33_3 := blk_frozen BK114.out 3; have hfz33_4 := blk_frozen BK114.out 4)); go_upto_region 11 with (first | ((with_reducible refine gate_dst (N := 7) rfl ?_); refine box_event ?hg (N := 7) ?hd (cs := #[.int .i64 0, .int .i64 0, .int .i64 0, .int .i64 0, .bool false]) (t := 28) ?hr ?_; (case hd => rfl); (case hg => rfl); (case hr => first | (go_simp; done) | (go_simp; rfl)); intro gb114 hg w31 hbox hb; have n0_ := Aside0.mk (Kd.R_below (by (with_reducible repeat (first | apply Kd.R_alloc | apply Kd.R_drewN | apply Kd.R_drew)); exact HO_3.out) hb); have n1_ := Aside0.mk (blk_below (g := gb109) (o := .cells #[.int .i64 ((rd_T28 l0 x16_2).f0), .int .i64 ((rd_T28 l0 x16_2).f1), .int .i64 ((rd_T28 l0 x16_2).f2), .int .i64 ((rd_T28 l0 x16_2).f3), .bool ((rd_T28 l0 x16_2).f4)] 28 (0, 0)) (by (with_reducible repeat (first | refine blk_drewN ?_ _ | refine blk_drew ?_ | refine blk_alloc ?_ _)); exact BK109.out) hb); have n2_ := Aside0.mk (below_step (by repeat (first | (with_reducible first | exact HB.out | apply below_alloc | apply pw_below_drewN | apply below_drew1 | refine below_set ?_ GE109.out) | exact HB.out)) hb); have n3_ := Aside0.mk (hbox); have n4_ := Aside0.mk ((by rw [hg]; exact (below_size (by repeat (first | (with_reducible first | exact HB.out | apply below_alloc | apply pw_below_drewN | apply below_drew1 | refine below_set ?_ GE109.out) | exact HB.out))) : w.heap.size ≤ gb114)); have n5_ := Aside0.mk ((by rw [hg]; exact (below_size (by repeat (first | (with_reducible first | exact HB.out | apply below_alloc | apply pw_below_drewN | apply below_drew1 | refine below_set ?_ GE109.out) | exact HB.out))) : w.heap.size ≤ gb114)); have n6_ := Aside0.mk ((by rw [hg]; exact Nat.ne_of_lt (blk_lt (g := gb109) (o := .cells #[.int .i64 ((rd_T28 l0 x16_2).f0), .int .i64 ((rd_T28 l0 x16_2).f1), .int .i64 ((rd_T28 l0 x16_2).f2), .int .i64 ((rd_T28 l0 x16_2).f3), .bool ((rd_T28 l0 x16_2).f4)] 28 (0, 0)) (by (with_reducible repeat (first | refine blk_drewN ?_ _ | refine blk_drew ?_ | refine blk_alloc ?_ _)); exact BK109.out)) : gb109 ≠ gb114)); have n7_ := Aside0.mk ((by rw [hg]; exact Nat.ne_of_gt (blk_lt (g := gb109) (o := .cells #[.int .i64 ((rd_T28 l0 x16_2).f0), .int .i64 ((rd_T28 l0 x16_2).f1), .int .i64 ((rd_T28 l0 x16_2).f2), .int .i64 ((rd_T28 l0 x16_2).f3), .bool ((rd_T28 l0 x16_2).f4)] 28 (0, 0)) (by (with_reducible repeat (first | refine blk_drewN ?_ _ | refine blk_drew ?_ | refine blk_alloc ?_ _)); exact BK109.out)) : gb114 ≠ gb109)); clear HO_3; clear BK109; clear HB; have HO_3 := n0_; have BK109 := n1_; have HB := n2_; have BK114 := n3_; have GW114 := n4_; have GE114 := n5_; have NB109_114 := n6_; have NB114_109 := n7_; clear n0_ n1_ n2_ n3_ n4_ n5_ n6_ n7_; clear hb hbox hg; have hnb32 := NB114_109.out; have hnc32 := NB109_114.out; have hcz33_0 : w31.cell? ⟨gb114, 0, none⟩ = some (.int .i64 0) := (blk_cell BK114.out 0).trans rfl; have hcz33_1 : w31.cell? ⟨gb114, 1, none⟩ = some (.int .i64 0) := (blk_cell BK114.out 1).trans rfl; have hcz33_2 : w31.cell? ⟨gb114, 2, none⟩ = some (.int .i64 0) := (blk_cell BK114.out 2).trans rfl; have hcz33_3 : w31.cell? ⟨gb114, 3, none⟩ = some (.int .i64 0) := (blk_cell BK114.out 3).trans rfl; have hcz33_4 : w31.cell? ⟨gb114, 4, none⟩ = some (.bool false) := (blk_cell BK114.out 4).trans rfl; have hfz33_0 := blk_frozen BK114.out 0; have hfz33_1 := blk_frozen BK114.out 1; have hfz33_2 := blk_frozen BK114.out 2; have hfz33_3 := blk_frozen BK114.out 3; have hfz33_4 := blk_frozen BK114.out 4)))
                  (try simp only [Act.put, List.setIfInBounds_toArray, List.set_cons_zero, List.set_cons_succ])
                  go_cut [71] (fun v71 wc => ∃ (kq : Nat) (x71_29 : Bool), v71 = .bool x71_29 ∧ Aside0 (right_held.j3 kq l0 x3_3 x16_2 l0 (l0.length : Int) x16_2 l0 (l0.length : Int) x37_3 x71_29 ((rd_T28 l0 x16_2).f0) ((rd_T28 l0 x16_2).f1) ((rd_T28 l0 x16_2).f2) ((rd_T28 l0 x16_2).f3) ((rd_T28 l0 x16_2).f4) = some r) ∧ Aside0 (kq ≤ k3) ∧ Aside0 (Kd.R (Kd.int .i64) 3 wc w.heap.size (fun _ => True) (.slice (some ad110) x3_3.length co26) x3_3) ∧ Aside0 (wc.heap[gb109]? = some (.cells #[.int .i64 ((rd_T28 l0 x16_2).f0), .int .i64 ((rd_T28 l0 x16_2).f1), .int .i64 ((rd_T28 l0 x16_2).f2), .int .i64 ((rd_T28 l0 x16_2).f3), .bool ((rd_T28 l0 x16_2).f4)] 28 (0, 0))) ∧ Aside0 (wc.heap[gb114]? = some (.cells #[.int .i64 ((rd_T28 l0 x37_3).f0), .int .i64 ((rd_T28 l0 x37_3).f1), .int .i64 ((rd_T28 l0 x37_3).f2), .int .i64 ((rd_T28 l0 x37_3).f3), .bool ((rd_T28 l0 x37_3).f4)] 28 (0, 0))) ∧ Aside0 (Below w.heap.size w wc))
                  case first =>
                   have H := HC30.out
                   clear HC30
                   by_cases c34 : x37_3 < (x3_3.length : Int)
                   ·rw [if_pos c34] at H
                    have c34b0 : decide (x37_3 < (x3_3.length : Int)) = true := decide_eq_true c34
                    (try (have c34z0_0 := c34b0; simp only [hl3_3] at c34z0_0))
                    clear c34
                    (first | rw [c34b0] | (simp only [i64_w, i32_w]; rw [c34b0]) | skip)
                    by_cases c35 : (rd x3_3 x37_3) = 1
                    ·rw [if_pos c35] at H
                     have c35b0 : ((rd x3_3 x37_3) == 1) = true := beq_iff_eq.mpr c35
                     (try (have c35z0_0 := c35b0; simp only [hl3_3] at c35z0_0))
                     have c35b1 : ((rd x3_3 x37_3) != 1) = false := bne_eq_false_iff_eq.mpr c35
                     (try (have c35z1_0 := c35b1; simp only [hl3_3] at c35z1_0))
                     clear c35
                     obtain ⟨bq36, hbq36⟩ : ∃ b_ : Bool, b_ = ((rd_T28 l0 x37_3).f4) := ⟨_, rfl⟩
                     replace H : (if bq36 = true then (if ((rd_T28 l0 x37_3).f1) = ((rd_T28 l0 x16_2).f0) then (if ((rd_T28 l0 x37_3).f2) = ((rd_T28 l0 x16_2).f2) then (right_held.j3 k3 l0 x3_3 x16_2 l0 (l0.length : Int) x16_2 l0 (l0.length : Int) x37_3 (((rd_T28 l0 x37_3).f3) == ((rd_T28 l0 x16_2).f3)) ((rd_T28 l0 x16_2).f0) ((rd_T28 l0 x16_2).f1) ((rd_T28 l0 x16_2).f2) ((rd_T28 l0 x16_2).f3) ((rd_T28 l0 x16_2).f4)) else (right_held.j3 k3 l0 x3_3 x16_2 l0 (l0.length : Int) x16_2 l0 (l0.length : Int) x37_3 false ((rd_T28 l0 x16_2).f0) ((rd_T28 l0 x16_2).f1) ((rd_T28 l0 x16_2).f2) ((rd_T28 l0 x16_2).f3) ((rd_T28 l0 x16_2).f4))) else (right_held.j3 k3 l0 x3_3 x16_2 l0 (l0.length : Int) x16_2 l0 (l0.length : Int) x37_3 false ((rd_T28 l0 x16_2).f0) ((rd_T28 l0 x16_2).f1) ((rd_T28 l0 x16_2).f2) ((rd_T28 l0 x16_2).f3) ((rd_T28 l0 x16_2).f4))) else (right_held.j3 k3 l0 x3_3 x16_2 l0 (l0.length : Int) x16_2 l0 (l0.length : Int) x37_3 false ((rd_T28 l0 x16_2).f0) ((rd_T28 l0 x16_2).f1) ((rd_T28 l0 x16_2).f2) ((rd_T28 l0 x16_2).f3) ((rd_T28 l0 x16_2).f4))) = some r := by rw [← hbq36] at H; exact H
                     have Nbq36 := Aside0.mk hbq36
                     clear hbq36
                     (try rw [← Nbq36.out])
                     by_cases c37 : bq36 = true
                     ·subst c37
                      have H1 : (if ((rd_T28 l0 x37_3).f1) = ((rd_T28 l0 x16_2).f0) then (if ((rd_T28 l0 x37_3).f2) = ((rd_T28 l0 x16_2).f2) then (right_held.j3 k3 l0 x3_3 x16_2 l0 (l0.length : Int) x16_2 l0 (l0.length : Int) x37_3 (((rd_T28 l0 x37_3).f3) == ((rd_T28 l0 x16_2).f3)) ((rd_T28 l0 x16_2).f0) ((rd_T28 l0 x16_2).f1) ((rd_T28 l0 x16_2).f2) ((rd_T28 l0 x16_2).f3) ((rd_T28 l0 x16_2).f4)) else (right_held.j3 k3 l0 x3_3 x16_2 l0 (l0.length : Int) x16_2 l0 (l0.length : Int) x37_3 false ((rd_T28 l0 x16_2).f0) ((rd_T28 l0 x16_2).f1) ((rd_T28 l0 x16_2).f2) ((rd_T28 l0 x16_2).f3) ((rd_T28 l0 x16_2).f4))) else (right_held.j3 k3 l0 x3_3 x16_2 l0 (l0.length : Int) x16_2 l0 (l0.length : Int) x37_3 false ((rd_T28 l0 x16_2).f0) ((rd_T28 l0 x16_2).f1) ((rd_T28 l0 x16_2).f2) ((rd_T28 l0 x16_2).f3) ((rd_T28 l0 x16_2).f4))) = some r := by rw [if_pos rfl] at H; exact H
                      clear H
                      have H := H1
                      clear H1
                      by_cases c38 : ((rd_T28 l0 x37_3).f1) = ((rd_T28 l0 x16_2).f0)
                      ·rw [if_pos c38] at H
                       have c38b0 : (((rd_T28 l0 x37_3).f1) == ((rd_T28 l0 x16_2).f0)) = true := beq_iff_eq.mpr c38
                       (try (have c38z0_0 := c38b0; simp only [hl3_3] at c38z0_0))
                       have c38b1 : (((rd_T28 l0 x37_3).f1) != ((rd_T28 l0 x16_2).f0)) = false := bne_eq_false_iff_eq.mpr c38
                       (try (have c38z1_0 := c38b1; simp only [hl3_3] at c38z1_0))
                       clear c38
                       by_cases c39 : ((rd_T28 l0 x37_3).f2) = ((rd_T28 l0 x16_2).f2)
                       ·rw [if_pos c39] at H
                        have c39b0 : (((rd_T28 l0 x37_3).f2) == ((rd_T28 l0 x16_2).f2)) = true := beq_iff_eq.mpr c39
                        (try (have c39z0_0 := c39b0; simp only [hl3_3] at c39z0_0))
                        have c39b1 : (((rd_T28 l0 x37_3).f2) != ((rd_T28 l0 x16_2).f2)) = false := bne_eq_false_iff_eq.mpr c39
                        (try (have c39z1_0 := c39b1; simp only [hl3_3] at c39z1_0))
                        clear c39
                        have H' := Aside0.mk H
                        clear H
                        have p115 : 0 ≤ (x37_3 : Int) := of_decide_eq_true (by first | (with_reducible assumption) | assumption)
                        have q115 : x37_3 < (x3_3.length : Int) := of_decide_eq_true (by first | (with_reducible assumption) | assumption)
                        obtain ⟨ad115, e115, hx115_0⟩ := Kd.at_int (Kd.R_reads' HO_3.out).2.2 x37_3 p115 q115
                        obtain rfl : ad110 = ad115 := (by injection e115)
                        have hn115_0 : ad110.block ≠ gb114 := Kd.own_blk (Kd.R_ne HO_3.out BK114.out (by decide))
                        have hn115_1 : ad110.block ≠ gb114 := Kd.own_blk (Kd.R_ne HO_3.out BK114.out (by decide))
                        have hn115_2 : ad110.block ≠ gb114 := Kd.own_blk (Kd.R_ne HO_3.out BK114.out (by decide))
                        have hn115_3 : ad110.block ≠ gb114 := Kd.own_blk (Kd.R_ne HO_3.out BK114.out (by decide))
                        have hn115_4 : ad110.block ≠ gb114 := Kd.own_blk (Kd.R_ne HO_3.out BK114.out (by decide))
                        replace hx115_0 := (cell_far (p := ⟨gb114, 0, none⟩) (by first | (rw [add_block]; exact hn115_0) | (show (Addr.add _ _).block ≠ _; rw [add_block]; exact hn115_0) | exact hn115_0) (.int .i64 ((rd_T28 l0 x37_3).f0))).trans hx115_0
                        replace hx115_0 := (cell_far (p := ⟨gb114, 1, none⟩) (by first | (rw [add_block]; exact hn115_1) | (show (Addr.add _ _).block ≠ _; rw [add_block]; exact hn115_1) | exact hn115_1) (.int .i64 ((rd_T28 l0 x37_3).f1))).trans hx115_0
                        replace hx115_0 := (cell_far (p := ⟨gb114, 2, none⟩) (by first | (rw [add_block]; exact hn115_2) | (show (Addr.add _ _).block ≠ _; rw [add_block]; exact hn115_2) | exact hn115_2) (.int .i64 ((rd_T28 l0 x37_3).f2))).trans hx115_0
                        replace hx115_0 := (cell_far (p := ⟨gb114, 3, none⟩) (by first | (rw [add_block]; exact hn115_3) | (show (Addr.add _ _).block ≠ _; rw [add_block]; exact hn115_3) | exact hn115_3) (.int .i64 ((rd_T28 l0 x37_3).f3))).trans hx115_0
                        replace hx115_0 := (cell_far (p := ⟨gb114, 4, none⟩) (by first | (rw [add_block]; exact hn115_4) | (show (Addr.add _ _).block ≠ _; rw [add_block]; exact hn115_4) | exact hn115_4) (.bool (true))).trans hx115_0
                        (try have hy115_0 := fun (n_ : Nat) => (show (((((((w31.drewN n_).setCell ⟨gb114, 0, none⟩ (.int .i64 ((rd_T28 l0 x37_3).f0))).setCell ⟨gb114, 1, none⟩ (.int .i64 ((rd_T28 l0 x37_3).f1))).setCell ⟨gb114, 2, none⟩ (.int .i64 ((rd_T28 l0 x37_3).f2))).setCell ⟨gb114, 3, none⟩ (.int .i64 ((rd_T28 l0 x37_3).f3))).setCell ⟨gb114, 4, none⟩ (.bool (true)))).cell? _ = some _ from ((congrArg (fun W_ : World => W_.cell? _) (show ((((((w31.drewN n_).setCell ⟨gb114, 0, none⟩ (.int .i64 ((rd_T28 l0 x37_3).f0))).setCell ⟨gb114, 1, none⟩ (.int .i64 ((rd_T28 l0 x37_3).f1))).setCell ⟨gb114, 2, none⟩ (.int .i64 ((rd_T28 l0 x37_3).f2))).setCell ⟨gb114, 3, none⟩ (.int .i64 ((rd_T28 l0 x37_3).f3))).setCell ⟨gb114, 4, none⟩ (.bool (true))) = World.drewN ((((((w31).setCell ⟨gb114, 0, none⟩ (.int .i64 ((rd_T28 l0 x37_3).f0))).setCell ⟨gb114, 1, none⟩ (.int .i64 ((rd_T28 l0 x37_3).f1))).setCell ⟨gb114, 2, none⟩ (.int .i64 ((rd_T28 l0 x37_3).f2))).setCell ⟨gb114, 3, none⟩ (.int .i64 ((rd_T28 l0 x37_3).f3))).setCell ⟨gb114, 4, none⟩ (.bool (true))) n_ from by simp only [setCell_dn])).trans ((World.cell?_drewN ((((((w31).setCell ⟨gb114, 0, none⟩ (.int .i64 ((rd_T28 l0 x37_3).f0))).setCell ⟨gb114, 1, none⟩ (.int .i64 ((rd_T28 l0 x37_3).f1))).setCell ⟨gb114, 2, none⟩ (.int .i64 ((rd_T28 l0 x37_3).f2))).setCell ⟨gb114, 3, none⟩ (.int .i64 ((rd_T28 l0 x37_3).f3))).setCell ⟨gb114, 4, none⟩ (.bool (true))) n_ _).trans hx115_0))))
                        clear hn115_0
                        clear hn115_1
                        clear hn115_2
                        clear hn115_3
                        clear hn115_4
                        replace p115 := eq_true p115
                        replace q115 := eq_true q115
                        have hnb40 := NB114_109.out
                        have hnc40 := NB109_114.out
                        have hcz41_0 : w31.cell? ⟨gb114, 0, none⟩ = some (.int .i64 0) := (blk_cell BK114.out 0).trans rfl
                        have hcz41_1 : w31.cell? ⟨gb114, 1, none⟩ = some (.int .i64 0) := (blk_cell BK114.out 1).trans rfl
                        have hcz41_2 : w31.cell? ⟨gb114, 2, none⟩ = some (.int .i64 0) := (blk_cell BK114.out 2).trans rfl
                        have hcz41_3 : w31.cell? ⟨gb114, 3, none⟩ = some (.int .i64 0) := (blk_cell BK114.out 3).trans rfl
                        have hcz41_4 : w31.cell? ⟨gb114, 4, none⟩ = some (.bool false) := (blk_cell BK114.out 4).trans rfl
                        have hfz41_0 := blk_frozen BK114.out 0
                        have hfz41_1 := blk_frozen BK114.out 1
                        have hfz41_2 := blk_frozen BK114.out 2
                        have hfz41_3 := blk_frozen BK114.out 3
                        have hfz41_4 := blk_frozen BK114.out 4
                        have hcz42_0 : w31.cell? ⟨gb109, 0, none⟩ = some (.int .i64 ((rd_T28 l0 x16_2).f0)) := (blk_cell BK109.out 0).trans rfl
                        have hcz42_1 : w31.cell? ⟨gb109, 1, none⟩ = some (.int .i64 ((rd_T28 l0 x16_2).f1)) := (blk_cell BK109.out 1).trans rfl
                        have hcz42_2 : w31.cell? ⟨gb109, 2, none⟩ = some (.int .i64 ((rd_T28 l0 x16_2).f2)) := (blk_cell BK109.out 2).trans rfl
                        have hcz42_3 : w31.cell? ⟨gb109, 3, none⟩ = some (.int .i64 ((rd_T28 l0 x16_2).f3)) := (blk_cell BK109.out 3).trans rfl
                        have hcz42_4 : w31.cell? ⟨gb109, 4, none⟩ = some (.bool ((rd_T28 l0 x16_2).f4)) := (blk_cell BK109.out 4).trans rfl
                        have hfz42_0 := blk_frozen BK109.out 0
                        have hfz42_1 := blk_frozen BK109.out 1
                        have hfz42_2 := blk_frozen BK109.out 2
                        have hfz42_3 := blk_frozen BK109.out 3
                        have hfz42_4 := blk_frozen BK109.out 4
                        go_wp2
                        repeat (go_quiet (fail); try go_wp2)
                        go_meet
                        case rel => exact ⟨_, ((((rd_T28 l0 x37_3).f3) == ((rd_T28 l0 x16_2).f3))), (by first | rfl | (simp; done) | (simp [*]; done)), H', ⟨by have := HK1.out; have := HK2.out; have := HK3.out; first | omega | exact Nat.le_refl _⟩, ⟨by (try simp only [hl3_3]); (with_reducible repeat (first | apply Kd.R_alloc | apply Kd.R_drewN | apply Kd.R_drew)); exact Kd.R_mono (Kd.R_far (p := ⟨gb114, 4, none⟩) (Kd.R_far (p := ⟨gb114, 3, none⟩) (Kd.R_far (p := ⟨gb114, 2, none⟩) (Kd.R_far (p := ⟨gb114, 1, none⟩) (Kd.R_far (p := ⟨gb114, 0, none⟩) (Kd.R_types HO_3.out BK114.out (by decide)) (fun _ hk => hk.2) (.int .i64 ((rd_T28 l0 x37_3).f0))) (fun _ hk => hk.2) (.int .i64 ((rd_T28 l0 x37_3).f1))) (fun _ hk => hk.2) (.int .i64 ((rd_T28 l0 x37_3).f2))) (fun _ hk => hk.2) (.int .i64 ((rd_T28 l0 x37_3).f3))) (fun _ hk => hk.2) (.bool (true))) (fun _ hk => trivial)⟩, ⟨by (try simp only [hl3_3]); (with_reducible repeat (first | refine blk_drewN ?_ _ | refine blk_drew ?_ | refine blk_alloc ?_ _)); refine blk_far ?_ NB109_114.out _; (with_reducible repeat (first | refine blk_drewN ?_ _ | refine blk_drew ?_ | refine blk_alloc ?_ _)); refine blk_far ?_ NB109_114.out _; (with_reducible repeat (first | refine blk_drewN ?_ _ | refine blk_drew ?_ | refine blk_alloc ?_ _)); refine blk_far ?_ NB109_114.out _; (with_reducible repeat (first | refine blk_drewN ?_ _ | refine blk_drew ?_ | refine blk_alloc ?_ _)); refine blk_far ?_ NB109_114.out _; (with_reducible repeat (first | refine blk_drewN ?_ _ | refine blk_drew ?_ | refine blk_alloc ?_ _)); refine blk_far ?_ NB109_114.out _; (with_reducible repeat (first | refine blk_drewN ?_ _ | refine blk_drew ?_ | refine blk_alloc ?_ _)); exact BK109.out⟩, ⟨by (try simp only [hl3_3]); (with_reducible repeat (first | refine blk_drewN ?_ _ | refine blk_drew ?_ | refine blk_alloc ?_ _)); refine blk_put (cs := #[.int .i64 ((rd_T28 l0 x37_3).f0), .int .i64 ((rd_T28 l0 x37_3).f1), .int .i64 ((rd_T28 l0 x37_3).f2), .int .i64 ((rd_T28 l0 x37_3).f3), .bool false]) ?_ 4 _ (by first | rfl | (rw [← Nbq36.out]; rfl)); (with_reducible repeat (first | refine blk_drewN ?_ _ | refine blk_drew ?_ | refine blk_alloc ?_ _)); refine blk_put (cs := #[.int .i64 ((rd_T28 l0 x37_3).f0), .int .i64 ((rd_T28 l0 x37_3).f1), .int .i64 ((rd_T28 l0 x37_3).f2), .int .i64 0, .bool false]) ?_ 3 _ (by first | rfl | (rw [← Nbq36.out]; rfl)); (with_reducible repeat (first | refine blk_drewN ?_ _ | refine blk_drew ?_ | refine blk_alloc ?_ _)); refine blk_put (cs := #[.int .i64 ((rd_T28 l0 x37_3).f0), .int .i64 ((rd_T28 l0 x37_3).f1), .int .i64 0, .int .i64 0, .bool false]) ?_ 2 _ (by first | rfl | (rw [← Nbq36.out]; rfl)); (with_reducible repeat (first | refine blk_drewN ?_ _ | refine blk_drew ?_ | refine blk_alloc ?_ _)); refine blk_put (cs := #[.int .i64 ((rd_T28 l0 x37_3).f0), .int .i64 0, .int .i64 0, .int .i64 0, .bool false]) ?_ 1 _ (by first | rfl | (rw [← Nbq36.out]; rfl)); (with_reducible repeat (first | refine blk_drewN ?_ _ | refine blk_drew ?_ | refine blk_alloc ?_ _)); refine blk_put (cs := #[.int .i64 0, .int .i64 0, .int .i64 0, .int .i64 0, .bool false]) ?_ 0 _ (by first | rfl | (rw [← Nbq36.out]; rfl)); (with_reducible repeat (first | refine blk_drewN ?_ _ | refine blk_drew ?_ | refine blk_alloc ?_ _)); exact BK114.out⟩, ⟨by repeat (first | (with_reducible first | exact HB.out | apply below_alloc | apply pw_below_drewN | apply below_drew1 | refine below_set ?_ GE109.out | refine below_set ?_ GE114.out) | exact HB.out)⟩⟩
                       ·rw [if_neg c39] at H
                        have c39b0 : (((rd_T28 l0 x37_3).f2) == ((rd_T28 l0 x16_2).f2)) = false := beq_eq_false_iff_ne.mpr c39
                        (try (have c39z0_0 := c39b0; simp only [hl3_3] at c39z0_0))
                        have c39b1 : (((rd_T28 l0 x37_3).f2) != ((rd_T28 l0 x16_2).f2)) = true := bne_iff_ne.mpr c39
                        (try (have c39z1_0 := c39b1; simp only [hl3_3] at c39z1_0))
                        have H' := Aside0.mk H
                        clear H
                        have p115 : 0 ≤ (x37_3 : Int) := of_decide_eq_true (by first | (with_reducible assumption) | assumption)
                        have q115 : x37_3 < (x3_3.length : Int) := of_decide_eq_true (by first | (with_reducible assumption) | assumption)
                        obtain ⟨ad115, e115, hx115_0⟩ := Kd.at_int (Kd.R_reads' HO_3.out).2.2 x37_3 p115 q115
                        obtain rfl : ad110 = ad115 := (by injection e115)
                        have hn115_0 : ad110.block ≠ gb114 := Kd.own_blk (Kd.R_ne HO_3.out BK114.out (by decide))
                        have hn115_1 : ad110.block ≠ gb114 := Kd.own_blk (Kd.R_ne HO_3.out BK114.out (by decide))
                        have hn115_2 : ad110.block ≠ gb114 := Kd.own_blk (Kd.R_ne HO_3.out BK114.out (by decide))
                        have hn115_3 : ad110.block ≠ gb114 := Kd.own_blk (Kd.R_ne HO_3.out BK114.out (by decide))
                        have hn115_4 : ad110.block ≠ gb114 := Kd.own_blk (Kd.R_ne HO_3.out BK114.out (by decide))
                        replace hx115_0 := (cell_far (p := ⟨gb114, 0, none⟩) (by first | (rw [add_block]; exact hn115_0) | (show (Addr.add _ _).block ≠ _; rw [add_block]; exact hn115_0) | exact hn115_0) (.int .i64 ((rd_T28 l0 x37_3).f0))).trans hx115_0
                        replace hx115_0 := (cell_far (p := ⟨gb114, 1, none⟩) (by first | (rw [add_block]; exact hn115_1) | (show (Addr.add _ _).block ≠ _; rw [add_block]; exact hn115_1) | exact hn115_1) (.int .i64 ((rd_T28 l0 x37_3).f1))).trans hx115_0
                        replace hx115_0 := (cell_far (p := ⟨gb114, 2, none⟩) (by first | (rw [add_block]; exact hn115_2) | (show (Addr.add _ _).block ≠ _; rw [add_block]; exact hn115_2) | exact hn115_2) (.int .i64 ((rd_T28 l0 x37_3).f2))).trans hx115_0
                        replace hx115_0 := (cell_far (p := ⟨gb114, 3, none⟩) (by first | (rw [add_block]; exact hn115_3) | (show (Addr.add _ _).block ≠ _; rw [add_block]; exact hn115_3) | exact hn115_3) (.int .i64 ((rd_T28 l0 x37_3).f3))).trans hx115_0
                        replace hx115_0 := (cell_far (p := ⟨gb114, 4, none⟩) (by first | (rw [add_block]; exact hn115_4) | (show (Addr.add _ _).block ≠ _; rw [add_block]; exact hn115_4) | exact hn115_4) (.bool (true))).trans hx115_0
                        (try have hy115_0 := fun (n_ : Nat) => (show (((((((w31.drewN n_).setCell ⟨gb114, 0, none⟩ (.int .i64 ((rd_T28 l0 x37_3).f0))).setCell ⟨gb114, 1, none⟩ (.int .i64 ((rd_T28 l0 x37_3).f1))).setCell ⟨gb114, 2, none⟩ (.int .i64 ((rd_T28 l0 x37_3).f2))).setCell ⟨gb114, 3, none⟩ (.int .i64 ((rd_T28 l0 x37_3).f3))).setCell ⟨gb114, 4, none⟩ (.bool (true)))).cell? _ = some _ from ((congrArg (fun W_ : World => W_.cell? _) (show ((((((w31.drewN n_).setCell ⟨gb114, 0, none⟩ (.int .i64 ((rd_T28 l0 x37_3).f0))).setCell ⟨gb114, 1, none⟩ (.int .i64 ((rd_T28 l0 x37_3).f1))).setCell ⟨gb114, 2, none⟩ (.int .i64 ((rd_T28 l0 x37_3).f2))).setCell ⟨gb114, 3, none⟩ (.int .i64 ((rd_T28 l0 x37_3).f3))).setCell ⟨gb114, 4, none⟩ (.bool (true))) = World.drewN ((((((w31).setCell ⟨gb114, 0, none⟩ (.int .i64 ((rd_T28 l0 x37_3).f0))).setCell ⟨gb114, 1, none⟩ (.int .i64 ((rd_T28 l0 x37_3).f1))).setCell ⟨gb114, 2, none⟩ (.int .i64 ((rd_T28 l0 x37_3).f2))).setCell ⟨gb114, 3, none⟩ (.int .i64 ((rd_T28 l0 x37_3).f3))).setCell ⟨gb114, 4, none⟩ (.bool (true))) n_ from by simp only [setCell_dn])).trans ((World.cell?_drewN ((((((w31).setCell ⟨gb114, 0, none⟩ (.int .i64 ((rd_T28 l0 x37_3).f0))).setCell ⟨gb114, 1, none⟩ (.int .i64 ((rd_T28 l0 x37_3).f1))).setCell ⟨gb114, 2, none⟩ (.int .i64 ((rd_T28 l0 x37_3).f2))).setCell ⟨gb114, 3, none⟩ (.int .i64 ((rd_T28 l0 x37_3).f3))).setCell ⟨gb114, 4, none⟩ (.bool (true))) n_ _).trans hx115_0))))
                        clear hn115_0
                        clear hn115_1
                        clear hn115_2
                        clear hn115_3
                        clear hn115_4
                        replace p115 := eq_true p115
                        replace q115 := eq_true q115
                        have hnb43 := NB114_109.out
                        have hnc43 := NB109_114.out
                        have hcz44_0 : w31.cell? ⟨gb114, 0, none⟩ = some (.int .i64 0) := (blk_cell BK114.out 0).trans rfl
                        have hcz44_1 : w31.cell? ⟨gb114, 1, none⟩ = some (.int .i64 0) := (blk_cell BK114.out 1).trans rfl
                        have hcz44_2 : w31.cell? ⟨gb114, 2, none⟩ = some (.int .i64 0) := (blk_cell BK114.out 2).trans rfl
                        have hcz44_3 : w31.cell? ⟨gb114, 3, none⟩ = some (.int .i64 0) := (blk_cell BK114.out 3).trans rfl
                        have hcz44_4 : w31.cell? ⟨gb114, 4, none⟩ = some (.bool false) := (blk_cell BK114.out 4).trans rfl
                        have hfz44_0 := blk_frozen BK114.out 0
                        have hfz44_1 := blk_frozen BK114.out 1
                        have hfz44_2 := blk_frozen BK114.out 2
                        have hfz44_3 := blk_frozen BK114.out 3
                        have hfz44_4 := blk_frozen BK114.out 4
                        have hcz45_0 : w31.cell? ⟨gb109, 0, none⟩ = some (.int .i64 ((rd_T28 l0 x16_2).f0)) := (blk_cell BK109.out 0).trans rfl
                        have hcz45_1 : w31.cell? ⟨gb109, 1, none⟩ = some (.int .i64 ((rd_T28 l0 x16_2).f1)) := (blk_cell BK109.out 1).trans rfl
                        have hcz45_2 : w31.cell? ⟨gb109, 2, none⟩ = some (.int .i64 ((rd_T28 l0 x16_2).f2)) := (blk_cell BK109.out 2).trans rfl
                        have hcz45_3 : w31.cell? ⟨gb109, 3, none⟩ = some (.int .i64 ((rd_T28 l0 x16_2).f3)) := (blk_cell BK109.out 3).trans rfl
                        have hcz45_4 : w31.cell? ⟨gb109, 4, none⟩ = some (.bool ((rd_T28 l0 x16_2).f4)) := (blk_cell BK109.out 4).trans rfl
                        have hfz45_0 := blk_frozen BK109.out 0
                        have hfz45_1 := blk_frozen BK109.out 1
                        have hfz45_2 := blk_frozen BK109.out 2
                        have hfz45_3 := blk_frozen BK109.out 3
                        have hfz45_4 := blk_frozen BK109.out 4
                        go_wp2
                        repeat (go_quiet (fail); try go_wp2)
                        go_meet
                        case rel => exact ⟨_, (false), (by first | rfl | (simp; done) | (simp [*]; done)), H', ⟨by have := HK1.out; have := HK2.out; have := HK3.out; first | omega | exact Nat.le_refl _⟩, ⟨by (try simp only [hl3_3]); (with_reducible repeat (first | apply Kd.R_alloc | apply Kd.R_drewN | apply Kd.R_drew)); exact Kd.R_mono (Kd.R_far (p := ⟨gb114, 4, none⟩) (Kd.R_far (p := ⟨gb114, 3, none⟩) (Kd.R_far (p := ⟨gb114, 2, none⟩) (Kd.R_far (p := ⟨gb114, 1, none⟩) (Kd.R_far (p := ⟨gb114, 0, none⟩) (Kd.R_types HO_3.out BK114.out (by decide)) (fun _ hk => hk.2) (.int .i64 ((rd_T28 l0 x37_3).f0))) (fun _ hk => hk.2) (.int .i64 ((rd_T28 l0 x37_3).f1))) (fun _ hk => hk.2) (.int .i64 ((rd_T28 l0 x37_3).f2))) (fun _ hk => hk.2) (.int .i64 ((rd_T28 l0 x37_3).f3))) (fun _ hk => hk.2) (.bool (true))) (fun _ hk => trivial)⟩, ⟨by (try simp only [hl3_3]); (with_reducible repeat (first | refine blk_drewN ?_ _ | refine blk_drew ?_ | refine blk_alloc ?_ _)); refine blk_far ?_ NB109_114.out _; (with_reducible repeat (first | refine blk_drewN ?_ _ | refine blk_drew ?_ | refine blk_alloc ?_ _)); refine blk_far ?_ NB109_114.out _; (with_reducible repeat (first | refine blk_drewN ?_ _ | refine blk_drew ?_ | refine blk_alloc ?_ _)); refine blk_far ?_ NB109_114.out _; (with_reducible repeat (first | refine blk_drewN ?_ _ | refine blk_drew ?_ | refine blk_alloc ?_ _)); refine blk_far ?_ NB109_114.out _; (with_reducible repeat (first | refine blk_drewN ?_ _ | refine blk_drew ?_ | refine blk_alloc ?_ _)); refine blk_far ?_ NB109_114.out _; (with_reducible repeat (first | refine blk_drewN ?_ _ | refine blk_drew ?_ | refine blk_alloc ?_ _)); exact BK109.out⟩, ⟨by (try simp only [hl3_3]); (with_reducible repeat (first | refine blk_drewN ?_ _ | refine blk_drew ?_ | refine blk_alloc ?_ _)); refine blk_put (cs := #[.int .i64 ((rd_T28 l0 x37_3).f0), .int .i64 ((rd_T28 l0 x37_3).f1), .int .i64 ((rd_T28 l0 x37_3).f2), .int .i64 ((rd_T28 l0 x37_3).f3), .bool false]) ?_ 4 _ (by first | rfl | (rw [← Nbq36.out]; rfl)); (with_reducible repeat (first | refine blk_drewN ?_ _ | refine blk_drew ?_ | refine blk_alloc ?_ _)); refine blk_put (cs := #[.int .i64 ((rd_T28 l0 x37_3).f0), .int .i64 ((rd_T28 l0 x37_3).f1), .int .i64 ((rd_T28 l0 x37_3).f2), .int .i64 0, .bool false]) ?_ 3 _ (by first | rfl | (rw [← Nbq36.out]; rfl)); (with_reducible repeat (first | refine blk_drewN ?_ _ | refine blk_drew ?_ | refine blk_alloc ?_ _)); refine blk_put (cs := #[.int .i64 ((rd_T28 l0 x37_3).f0), .int .i64 ((rd_T28 l0 x37_3).f1), .int .i64 0, .int .i64 0, .bool false]) ?_ 2 _ (by first | rfl | (rw [← Nbq36.out]; rfl)); (with_reducible repeat (first | refine blk_drewN ?_ _ | refine blk_drew ?_ | refine blk_alloc ?_ _)); refine blk_put (cs := #[.int .i64 ((rd_T28 l0 x37_3).f0), .int .i64 0, .int .i64 0, .int .i64 0, .bool false]) ?_ 1 _ (by first | rfl | (rw [← Nbq36.out]; rfl)); (with_reducible repeat (first | refine blk_drewN ?_ _ | refine blk_drew ?_ | refine blk_alloc ?_ _)); refine blk_put (cs := #[.int .i64 0, .int .i64 0, .int .i64 0, .int .i64 0, .bool false]) ?_ 0 _ (by first | rfl | (rw [← Nbq36.out]; rfl)); (with_reducible repeat (first | refine blk_drewN ?_ _ | refine blk_drew ?_ | refine blk_alloc ?_ _)); exact BK114.out⟩, ⟨by repeat (first | (with_reducible first | exact HB.out | apply below_alloc | apply pw_below_drewN | apply below_drew1 | refine below_set ?_ GE109.out | refine below_set ?_ GE114.out) | exact HB.out)⟩⟩
                      ·rw [if_neg c38] at H
                       have c38b0 : (((rd_T28 l0 x37_3).f1) == ((rd_T28 l0 x16_2).f0)) = false := beq_eq_false_iff_ne.mpr c38
                       (try (have c38z0_0 := c38b0; simp only [hl3_3] at c38z0_0))
                       have c38b1 : (((rd_T28 l0 x37_3).f1) != ((rd_T28 l0 x16_2).f0)) = true := bne_iff_ne.mpr c38
                       (try (have c38z1_0 := c38b1; simp only [hl3_3] at c38z1_0))
                       have H' := Aside0.mk H
                       clear H
                       have p115 : 0 ≤ (x37_3 : Int) := of_decide_eq_true (by first | (with_reducible assumption) | assumption)
                       have q115 : x37_3 < (x3_3.length : Int) := of_decide_eq_true (by first | (with_reducible assumption) | assumption)
                       obtain ⟨ad115, e115, hx115_0⟩ := Kd.at_int (Kd.R_reads' HO_3.out).2.2 x37_3 p115 q115
                       obtain rfl : ad110 = ad115 := (by injection e115)
                       have hn115_0 : ad110.block ≠ gb114 := Kd.own_blk (Kd.R_ne HO_3.out BK114.out (by decide))
                       have hn115_1 : ad110.block ≠ gb114 := Kd.own_blk (Kd.R_ne HO_3.out BK114.out (by decide))
                       have hn115_2 : ad110.block ≠ gb114 := Kd.own_blk (Kd.R_ne HO_3.out BK114.out (by decide))
                       have hn115_3 : ad110.block ≠ gb114 := Kd.own_blk (Kd.R_ne HO_3.out BK114.out (by decide))
                       have hn115_4 : ad110.block ≠ gb114 := Kd.own_blk (Kd.R_ne HO_3.out BK114.out (by decide))
                       replace hx115_0 := (cell_far (p := ⟨gb114, 0, none⟩) (by first | (rw [add_block]; exact hn115_0) | (show (Addr.add _ _).block ≠ _; rw [add_block]; exact hn115_0) | exact hn115_0) (.int .i64 ((rd_T28 l0 x37_3).f0))).trans hx115_0
                       replace hx115_0 := (cell_far (p := ⟨gb114, 1, none⟩) (by first | (rw [add_block]; exact hn115_1) | (show (Addr.add _ _).block ≠ _; rw [add_block]; exact hn115_1) | exact hn115_1) (.int .i64 ((rd_T28 l0 x37_3).f1))).trans hx115_0
                       replace hx115_0 := (cell_far (p := ⟨gb114, 2, none⟩) (by first | (rw [add_block]; exact hn115_2) | (show (Addr.add _ _).block ≠ _; rw [add_block]; exact hn115_2) | exact hn115_2) (.int .i64 ((rd_T28 l0 x37_3).f2))).trans hx115_0
                       replace hx115_0 := (cell_far (p := ⟨gb114, 3, none⟩) (by first | (rw [add_block]; exact hn115_3) | (show (Addr.add _ _).block ≠ _; rw [add_block]; exact hn115_3) | exact hn115_3) (.int .i64 ((rd_T28 l0 x37_3).f3))).trans hx115_0
                       replace hx115_0 := (cell_far (p := ⟨gb114, 4, none⟩) (by first | (rw [add_block]; exact hn115_4) | (show (Addr.add _ _).block ≠ _; rw [add_block]; exact hn115_4) | exact hn115_4) (.bool (true))).trans hx115_0
                       (try have hy115_0 := fun (n_ : Nat) => (show (((((((w31.drewN n_).setCell ⟨gb114, 0, none⟩ (.int .i64 ((rd_T28 l0 x37_3).f0))).setCell ⟨gb114, 1, none⟩ (.int .i64 ((rd_T28 l0 x37_3).f1))).setCell ⟨gb114, 2, none⟩ (.int .i64 ((rd_T28 l0 x37_3).f2))).setCell ⟨gb114, 3, none⟩ (.int .i64 ((rd_T28 l0 x37_3).f3))).setCell ⟨gb114, 4, none⟩ (.bool (true)))).cell? _ = some _ from ((congrArg (fun W_ : World => W_.cell? _) (show ((((((w31.drewN n_).setCell ⟨gb114, 0, none⟩ (.int .i64 ((rd_T28 l0 x37_3).f0))).setCell ⟨gb114, 1, none⟩ (.int .i64 ((rd_T28 l0 x37_3).f1))).setCell ⟨gb114, 2, none⟩ (.int .i64 ((rd_T28 l0 x37_3).f2))).setCell ⟨gb114, 3, none⟩ (.int .i64 ((rd_T28 l0 x37_3).f3))).setCell ⟨gb114, 4, none⟩ (.bool (true))) = World.drewN ((((((w31).setCell ⟨gb114, 0, none⟩ (.int .i64 ((rd_T28 l0 x37_3).f0))).setCell ⟨gb114, 1, none⟩ (.int .i64 ((rd_T28 l0 x37_3).f1))).setCell ⟨gb114, 2, none⟩ (.int .i64 ((rd_T28 l0 x37_3).f2))).setCell ⟨gb114, 3, none⟩ (.int .i64 ((rd_T28 l0 x37_3).f3))).setCell ⟨gb114, 4, none⟩ (.bool (true))) n_ from by simp only [setCell_dn])).trans ((World.cell?_drewN ((((((w31).setCell ⟨gb114, 0, none⟩ (.int .i64 ((rd_T28 l0 x37_3).f0))).setCell ⟨gb114, 1, none⟩ (.int .i64 ((rd_T28 l0 x37_3).f1))).setCell ⟨gb114, 2, none⟩ (.int .i64 ((rd_T28 l0 x37_3).f2))).setCell ⟨gb114, 3, none⟩ (.int .i64 ((rd_T28 l0 x37_3).f3))).setCell ⟨gb114, 4, none⟩ (.bool (true))) n_ _).trans hx115_0))))
                       clear hn115_0
                       clear hn115_1
                       clear hn115_2
                       clear hn115_3
                       clear hn115_4
                       replace p115 := eq_true p115
                       replace q115 := eq_true q115
                       have hnb46 := NB114_109.out
                       have hnc46 := NB109_114.out
                       have hcz47_0 : w31.cell? ⟨gb114, 0, none⟩ = some (.int .i64 0) := (blk_cell BK114.out 0).trans rfl
                       have hcz47_1 : w31.cell? ⟨gb114, 1, none⟩ = some (.int .i64 0) := (blk_cell BK114.out 1).trans rfl
                       have hcz47_2 : w31.cell? ⟨gb114, 2, none⟩ = some (.int .i64 0) := (blk_cell BK114.out 2).trans rfl
                       have hcz47_3 : w31.cell? ⟨gb114, 3, none⟩ = some (.int .i64 0) := (blk_cell BK114.out 3).trans rfl
                       have hcz47_4 : w31.cell? ⟨gb114, 4, none⟩ = some (.bool false) := (blk_cell BK114.out 4).trans rfl
                       have hfz47_0 := blk_frozen BK114.out 0
                       have hfz47_1 := blk_frozen BK114.out 1
                       have hfz47_2 := blk_frozen BK114.out 2
                       have hfz47_3 := blk_frozen BK114.out 3
                       have hfz47_4 := blk_frozen BK114.out 4
                       have hcz48_0 : w31.cell? ⟨gb109, 0, none⟩ = some (.int .i64 ((rd_T28 l0 x16_2).f0)) := (blk_cell BK109.out 0).trans rfl
                       have hcz48_1 : w31.cell? ⟨gb109, 1, none⟩ = some (.int .i64 ((rd_T28 l0 x16_2).f1)) := (blk_cell BK109.out 1).trans rfl
                       have hcz48_2 : w31.cell? ⟨gb109, 2, none⟩ = some (.int .i64 ((rd_T28 l0 x16_2).f2)) := (blk_cell BK109.out 2).trans rfl
                       have hcz48_3 : w31.cell? ⟨gb109, 3, none⟩ = some (.int .i64 ((rd_T28 l0 x16_2).f3)) := (blk_cell BK109.out 3).trans rfl
                       have hcz48_4 : w31.cell? ⟨gb109, 4, none⟩ = some (.bool ((rd_T28 l0 x16_2).f4)) := (blk_cell BK109.out 4).trans rfl
                       have hfz48_0 := blk_frozen BK109.out 0
                       have hfz48_1 := blk_frozen BK109.out 1
                       have hfz48_2 := blk_frozen BK109.out 2
                       have hfz48_3 := blk_frozen BK109.out 3
                       have hfz48_4 := blk_frozen BK109.out 4
                       go_wp2
                       repeat (go_quiet (fail); try go_wp2)
                       go_meet
                       case rel => exact ⟨_, (false), (by first | rfl | (simp; done) | (simp [*]; done)), H', ⟨by have := HK1.out; have := HK2.out; have := HK3.out; first | omega | exact Nat.le_refl _⟩, ⟨by (try simp only [hl3_3]); (with_reducible repeat (first | apply Kd.R_alloc | apply Kd.R_drewN | apply Kd.R_drew)); exact Kd.R_mono (Kd.R_far (p := ⟨gb114, 4, none⟩) (Kd.R_far (p := ⟨gb114, 3, none⟩) (Kd.R_far (p := ⟨gb114, 2, none⟩) (Kd.R_far (p := ⟨gb114, 1, none⟩) (Kd.R_far (p := ⟨gb114, 0, none⟩) (Kd.R_types HO_3.out BK114.out (by decide)) (fun _ hk => hk.2) (.int .i64 ((rd_T28 l0 x37_3).f0))) (fun _ hk => hk.2) (.int .i64 ((rd_T28 l0 x37_3).f1))) (fun _ hk => hk.2) (.int .i64 ((rd_T28 l0 x37_3).f2))) (fun _ hk => hk.2) (.int .i64 ((rd_T28 l0 x37_3).f3))) (fun _ hk => hk.2) (.bool (true))) (fun _ hk => trivial)⟩, ⟨by (try simp only [hl3_3]); (with_reducible repeat (first | refine blk_drewN ?_ _ | refine blk_drew ?_ | refine blk_alloc ?_ _)); refine blk_far ?_ NB109_114.out _; (with_reducible repeat (first | refine blk_drewN ?_ _ | refine blk_drew ?_ | refine blk_alloc ?_ _)); refine blk_far ?_ NB109_114.out _; (with_reducible repeat (first | refine blk_drewN ?_ _ | refine blk_drew ?_ | refine blk_alloc ?_ _)); refine blk_far ?_ NB109_114.out _; (with_reducible repeat (first | refine blk_drewN ?_ _ | refine blk_drew ?_ | refine blk_alloc ?_ _)); refine blk_far ?_ NB109_114.out _; (with_reducible repeat (first | refine blk_drewN ?_ _ | refine blk_drew ?_ | refine blk_alloc ?_ _)); refine blk_far ?_ NB109_114.out _; (with_reducible repeat (first | refine blk_drewN ?_ _ | refine blk_drew ?_ | refine blk_alloc ?_ _)); exact BK109.out⟩, ⟨by (try simp only [hl3_3]); (with_reducible repeat (first | refine blk_drewN ?_ _ | refine blk_drew ?_ | refine blk_alloc ?_ _)); refine blk_put (cs := #[.int .i64 ((rd_T28 l0 x37_3).f0), .int .i64 ((rd_T28 l0 x37_3).f1), .int .i64 ((rd_T28 l0 x37_3).f2), .int .i64 ((rd_T28 l0 x37_3).f3), .bool false]) ?_ 4 _ (by first | rfl | (rw [← Nbq36.out]; rfl)); (with_reducible repeat (first | refine blk_drewN ?_ _ | refine blk_drew ?_ | refine blk_alloc ?_ _)); refine blk_put (cs := #[.int .i64 ((rd_T28 l0 x37_3).f0), .int .i64 ((rd_T28 l0 x37_3).f1), .int .i64 ((rd_T28 l0 x37_3).f2), .int .i64 0, .bool false]) ?_ 3 _ (by first | rfl | (rw [← Nbq36.out]; rfl)); (with_reducible repeat (first | refine blk_drewN ?_ _ | refine blk_drew ?_ | refine blk_alloc ?_ _)); refine blk_put (cs := #[.int .i64 ((rd_T28 l0 x37_3).f0), .int .i64 ((rd_T28 l0 x37_3).f1), .int .i64 0, .int .i64 0, .bool false]) ?_ 2 _ (by first | rfl | (rw [← Nbq36.out]; rfl)); (with_reducible repeat (first | refine blk_drewN ?_ _ | refine blk_drew ?_ | refine blk_alloc ?_ _)); refine blk_put (cs := #[.int .i64 ((rd_T28 l0 x37_3).f0), .int .i64 0, .int .i64 0, .int .i64 0, .bool false]) ?_ 1 _ (by first | rfl | (rw [← Nbq36.out]; rfl)); (with_reducible repeat (first | refine blk_drewN ?_ _ | refine blk_drew ?_ | refine blk_alloc ?_ _)); refine blk_put (cs := #[.int .i64 0, .int .i64 0, .int .i64 0, .int .i64 0, .bool false]) ?_ 0 _ (by first | rfl | (rw [← Nbq36.out]; rfl)); (with_reducible repeat (first | refine blk_drewN ?_ _ | refine blk_drew ?_ | refine blk_alloc ?_ _)); exact BK114.out⟩, ⟨by repeat (first | (with_reducible first | exact HB.out | apply below_alloc | apply pw_below_drewN | apply below_drew1 | refine below_set ?_ GE109.out | refine below_set ?_ GE114.out) | exact HB.out)⟩⟩
                     ·replace c37 := Bool.eq_false_iff.mpr c37
                      subst c37
                      have H1 : (right_held.j3 k3 l0 x3_3 x16_2 l0 (l0.length : Int) x16_2 l0 (l0.length : Int) x37_3 false ((rd_T28 l0 x16_2).f0) ((rd_T28 l0 x16_2).f1) ((rd_T28 l0 x16_2).f2) ((rd_T28 l0 x16_2).f3) ((rd_T28 l0 x16_2).f4)) = some r := by rw [if_neg (show ¬ (false = true) by decide)] at H; exact H
                      clear H
                      have H := H1
                      clear H1
                      have H' := Aside0.mk H
                      clear H
                      have p115 : 0 ≤ (x37_3 : Int) := of_decide_eq_true (by first | (with_reducible assumption) | assumption)
                      have q115 : x37_3 < (x3_3.length : Int) := of_decide_eq_true (by first | (with_reducible assumption) | assumption)
                      obtain ⟨ad115, e115, hx115_0⟩ := Kd.at_int (Kd.R_reads' HO_3.out).2.2 x37_3 p115 q115
                      obtain rfl : ad110 = ad115 := (by injection e115)
                      have hn115_0 : ad110.block ≠ gb114 := Kd.own_blk (Kd.R_ne HO_3.out BK114.out (by decide))
                      have hn115_1 : ad110.block ≠ gb114 := Kd.own_blk (Kd.R_ne HO_3.out BK114.out (by decide))
                      have hn115_2 : ad110.block ≠ gb114 := Kd.own_blk (Kd.R_ne HO_3.out BK114.out (by decide))
                      have hn115_3 : ad110.block ≠ gb114 := Kd.own_blk (Kd.R_ne HO_3.out BK114.out (by decide))
                      have hn115_4 : ad110.block ≠ gb114 := Kd.own_blk (Kd.R_ne HO_3.out BK114.out (by decide))
                      replace hx115_0 := (cell_far (p := ⟨gb114, 0, none⟩) (by first | (rw [add_block]; exact hn115_0) | (show (Addr.add _ _).block ≠ _; rw [add_block]; exact hn115_0) | exact hn115_0) (.int .i64 ((rd_T28 l0 x37_3).f0))).trans hx115_0
                      replace hx115_0 := (cell_far (p := ⟨gb114, 1, none⟩) (by first | (rw [add_block]; exact hn115_1) | (show (Addr.add _ _).block ≠ _; rw [add_block]; exact hn115_1) | exact hn115_1) (.int .i64 ((rd_T28 l0 x37_3).f1))).trans hx115_0
                      replace hx115_0 := (cell_far (p := ⟨gb114, 2, none⟩) (by first | (rw [add_block]; exact hn115_2) | (show (Addr.add _ _).block ≠ _; rw [add_block]; exact hn115_2) | exact hn115_2) (.int .i64 ((rd_T28 l0 x37_3).f2))).trans hx115_0
                      replace hx115_0 := (cell_far (p := ⟨gb114, 3, none⟩) (by first | (rw [add_block]; exact hn115_3) | (show (Addr.add _ _).block ≠ _; rw [add_block]; exact hn115_3) | exact hn115_3) (.int .i64 ((rd_T28 l0 x37_3).f3))).trans hx115_0
                      replace hx115_0 := (cell_far (p := ⟨gb114, 4, none⟩) (by first | (rw [add_block]; exact hn115_4) | (show (Addr.add _ _).block ≠ _; rw [add_block]; exact hn115_4) | exact hn115_4) (.bool (false))).trans hx115_0
                      (try have hy115_0 := fun (n_ : Nat) => (show (((((((w31.drewN n_).setCell ⟨gb114, 0, none⟩ (.int .i64 ((rd_T28 l0 x37_3).f0))).setCell ⟨gb114, 1, none⟩ (.int .i64 ((rd_T28 l0 x37_3).f1))).setCell ⟨gb114, 2, none⟩ (.int .i64 ((rd_T28 l0 x37_3).f2))).setCell ⟨gb114, 3, none⟩ (.int .i64 ((rd_T28 l0 x37_3).f3))).setCell ⟨gb114, 4, none⟩ (.bool (false)))).cell? _ = some _ from ((congrArg (fun W_ : World => W_.cell? _) (show ((((((w31.drewN n_).setCell ⟨gb114, 0, none⟩ (.int .i64 ((rd_T28 l0 x37_3).f0))).setCell ⟨gb114, 1, none⟩ (.int .i64 ((rd_T28 l0 x37_3).f1))).setCell ⟨gb114, 2, none⟩ (.int .i64 ((rd_T28 l0 x37_3).f2))).setCell ⟨gb114, 3, none⟩ (.int .i64 ((rd_T28 l0 x37_3).f3))).setCell ⟨gb114, 4, none⟩ (.bool (false))) = World.drewN ((((((w31).setCell ⟨gb114, 0, none⟩ (.int .i64 ((rd_T28 l0 x37_3).f0))).setCell ⟨gb114, 1, none⟩ (.int .i64 ((rd_T28 l0 x37_3).f1))).setCell ⟨gb114, 2, none⟩ (.int .i64 ((rd_T28 l0 x37_3).f2))).setCell ⟨gb114, 3, none⟩ (.int .i64 ((rd_T28 l0 x37_3).f3))).setCell ⟨gb114, 4, none⟩ (.bool (false))) n_ from by simp only [setCell_dn])).trans ((World.cell?_drewN ((((((w31).setCell ⟨gb114, 0, none⟩ (.int .i64 ((rd_T28 l0 x37_3).f0))).setCell ⟨gb114, 1, none⟩ (.int .i64 ((rd_T28 l0 x37_3).f1))).setCell ⟨gb114, 2, none⟩ (.int .i64 ((rd_T28 l0 x37_3).f2))).setCell ⟨gb114, 3, none⟩ (.int .i64 ((rd_T28 l0 x37_3).f3))).setCell ⟨gb114, 4, none⟩ (.bool (false))) n_ _).trans hx115_0))))
                      clear hn115_0
                      clear hn115_1
                      clear hn115_2
                      clear hn115_3
                      clear hn115_4
                      replace p115 := eq_true p115
                      replace q115 := eq_true q115
                      have hnb49 := NB114_109.out
                      have hnc49 := NB109_114.out
                      have hcz50_0 : w31.cell? ⟨gb114, 0, none⟩ = some (.int .i64 0) := (blk_cell BK114.out 0).trans rfl
                      have hcz50_1 : w31.cell? ⟨gb114, 1, none⟩ = some (.int .i64 0) := (blk_cell BK114.out 1).trans rfl
                      have hcz50_2 : w31.cell? ⟨gb114, 2, none⟩ = some (.int .i64 0) := (blk_cell BK114.out 2).trans rfl
                      have hcz50_3 : w31.cell? ⟨gb114, 3, none⟩ = some (.int .i64 0) := (blk_cell BK114.out 3).trans rfl
                      have hcz50_4 : w31.cell? ⟨gb114, 4, none⟩ = some (.bool false) := (blk_cell BK114.out 4).trans rfl
                      have hfz50_0 := blk_frozen BK114.out 0
                      have hfz50_1 := blk_frozen BK114.out 1
                      have hfz50_2 := blk_frozen BK114.out 2
                      have hfz50_3 := blk_frozen BK114.out 3
                      have hfz50_4 := blk_frozen BK114.out 4
                      go_wp2
                      repeat (go_quiet (fail); try go_wp2)
                      go_meet
                      case rel => exact ⟨_, (false), (by first | rfl | (simp; done) | (simp [*]; done)), H', ⟨by have := HK1.out; have := HK2.out; have := HK3.out; first | omega | exact Nat.le_refl _⟩, ⟨by (try simp only [hl3_3]); (with_reducible repeat (first | apply Kd.R_alloc | apply Kd.R_drewN | apply Kd.R_drew)); exact Kd.R_mono (Kd.R_far (p := ⟨gb114, 4, none⟩) (Kd.R_far (p := ⟨gb114, 3, none⟩) (Kd.R_far (p := ⟨gb114, 2, none⟩) (Kd.R_far (p := ⟨gb114, 1, none⟩) (Kd.R_far (p := ⟨gb114, 0, none⟩) (Kd.R_types HO_3.out BK114.out (by decide)) (fun _ hk => hk.2) (.int .i64 ((rd_T28 l0 x37_3).f0))) (fun _ hk => hk.2) (.int .i64 ((rd_T28 l0 x37_3).f1))) (fun _ hk => hk.2) (.int .i64 ((rd_T28 l0 x37_3).f2))) (fun _ hk => hk.2) (.int .i64 ((rd_T28 l0 x37_3).f3))) (fun _ hk => hk.2) (.bool (false))) (fun _ hk => trivial)⟩, ⟨by (try simp only [hl3_3]); (with_reducible repeat (first | refine blk_drewN ?_ _ | refine blk_drew ?_ | refine blk_alloc ?_ _)); refine blk_far ?_ NB109_114.out _; (with_reducible repeat (first | refine blk_drewN ?_ _ | refine blk_drew ?_ | refine blk_alloc ?_ _)); refine blk_far ?_ NB109_114.out _; (with_reducible repeat (first | refine blk_drewN ?_ _ | refine blk_drew ?_ | refine blk_alloc ?_ _)); refine blk_far ?_ NB109_114.out _; (with_reducible repeat (first | refine blk_drewN ?_ _ | refine blk_drew ?_ | refine blk_alloc ?_ _)); refine blk_far ?_ NB109_114.out _; (with_reducible repeat (first | refine blk_drewN ?_ _ | refine blk_drew ?_ | refine blk_alloc ?_ _)); refine blk_far ?_ NB109_114.out _; (with_reducible repeat (first | refine blk_drewN ?_ _ | refine blk_drew ?_ | refine blk_alloc ?_ _)); exact BK109.out⟩, ⟨by (try simp only [hl3_3]); (with_reducible repeat (first | refine blk_drewN ?_ _ | refine blk_drew ?_ | refine blk_alloc ?_ _)); refine blk_put (cs := #[.int .i64 ((rd_T28 l0 x37_3).f0), .int .i64 ((rd_T28 l0 x37_3).f1), .int .i64 ((rd_T28 l0 x37_3).f2), .int .i64 ((rd_T28 l0 x37_3).f3), .bool false]) ?_ 4 _ (by first | rfl | (rw [← Nbq36.out]; rfl)); (with_reducible repeat (first | refine blk_drewN ?_ _ | refine blk_drew ?_ | refine blk_alloc ?_ _)); refine blk_put (cs := #[.int .i64 ((rd_T28 l0 x37_3).f0), .int .i64 ((rd_T28 l0 x37_3).f1), .int .i64 ((rd_T28 l0 x37_3).f2), .int .i64 0, .bool false]) ?_ 3 _ (by first | rfl | (rw [← Nbq36.out]; rfl)); (with_reducible repeat (first | refine blk_drewN ?_ _ | refine blk_drew ?_ | refine blk_alloc ?_ _)); refine blk_put (cs := #[.int .i64 ((rd_T28 l0 x37_3).f0), .int .i64 ((rd_T28 l0 x37_3).f1), .int .i64 0, .int .i64 0, .bool false]) ?_ 2 _ (by first | rfl | (rw [← Nbq36.out]; rfl)); (with_reducible repeat (first | refine blk_drewN ?_ _ | refine blk_drew ?_ | refine blk_alloc ?_ _)); refine blk_put (cs := #[.int .i64 ((rd_T28 l0 x37_3).f0), .int .i64 0, .int .i64 0, .int .i64 0, .bool false]) ?_ 1 _ (by first | rfl | (rw [← Nbq36.out]; rfl)); (with_reducible repeat (first | refine blk_drewN ?_ _ | refine blk_drew ?_ | refine blk_alloc ?_ _)); refine blk_put (cs := #[.int .i64 0, .int .i64 0, .int .i64 0, .int .i64 0, .bool false]) ?_ 0 _ (by first | rfl | (rw [← Nbq36.out]; rfl)); (with_reducible repeat (first | refine blk_drewN ?_ _ | refine blk_drew ?_ | refine blk_alloc ?_ _)); exact BK114.out⟩, ⟨by repeat (first | (with_reducible first | exact HB.out | apply below_alloc | apply pw_below_drewN | apply below_drew1 | refine below_set ?_ GE109.out | refine below_set ?_ GE114.out) | exact HB.out)⟩⟩
                    ·rw [if_neg c35] at H
                     have c35b0 : ((rd x3_3 x37_3) == 1) = false := beq_eq_false_iff_ne.mpr c35
                     (try (have c35z0_0 := c35b0; simp only [hl3_3] at c35z0_0))
                     have c35b1 : ((rd x3_3 x37_3) != 1) = true := bne_iff_ne.mpr c35
                     (try (have c35z1_0 := c35b1; simp only [hl3_3] at c35z1_0))
                     have H' := Aside0.mk H
                     clear H
                     have p115 : 0 ≤ (x37_3 : Int) := of_decide_eq_true (by first | (with_reducible assumption) | assumption)
                     have q115 : x37_3 < (x3_3.length : Int) := of_decide_eq_true (by first | (with_reducible assumption) | assumption)
                     obtain ⟨ad115, e115, hx115_0⟩ := Kd.at_int (Kd.R_reads' HO_3.out).2.2 x37_3 p115 q115
                     obtain rfl : ad110 = ad115 := (by injection e115)
                     have hn115_0 : ad110.block ≠ gb114 := Kd.own_blk (Kd.R_ne HO_3.out BK114.out (by decide))
                     have hn115_1 : ad110.block ≠ gb114 := Kd.own_blk (Kd.R_ne HO_3.out BK114.out (by decide))
                     have hn115_2 : ad110.block ≠ gb114 := Kd.own_blk (Kd.R_ne HO_3.out BK114.out (by decide))
                     have hn115_3 : ad110.block ≠ gb114 := Kd.own_blk (Kd.R_ne HO_3.out BK114.out (by decide))
                     have hn115_4 : ad110.block ≠ gb114 := Kd.own_blk (Kd.R_ne HO_3.out BK114.out (by decide))
                     replace hx115_0 := (cell_far (p := ⟨gb114, 0, none⟩) (by first | (rw [add_block]; exact hn115_0) | (show (Addr.add _ _).block ≠ _; rw [add_block]; exact hn115_0) | exact hn115_0) (.int .i64 ((rd_T28 l0 x37_3).f0))).trans hx115_0
                     replace hx115_0 := (cell_far (p := ⟨gb114, 1, none⟩) (by first | (rw [add_block]; exact hn115_1) | (show (Addr.add _ _).block ≠ _; rw [add_block]; exact hn115_1) | exact hn115_1) (.int .i64 ((rd_T28 l0 x37_3).f1))).trans hx115_0
                     replace hx115_0 := (cell_far (p := ⟨gb114, 2, none⟩) (by first | (rw [add_block]; exact hn115_2) | (show (Addr.add _ _).block ≠ _; rw [add_block]; exact hn115_2) | exact hn115_2) (.int .i64 ((rd_T28 l0 x37_3).f2))).trans hx115_0
                     replace hx115_0 := (cell_far (p := ⟨gb114, 3, none⟩) (by first | (rw [add_block]; exact hn115_3) | (show (Addr.add _ _).block ≠ _; rw [add_block]; exact hn115_3) | exact hn115_3) (.int .i64 ((rd_T28 l0 x37_3).f3))).trans hx115_0
                     replace hx115_0 := (cell_far (p := ⟨gb114, 4, none⟩) (by first | (rw [add_block]; exact hn115_4) | (show (Addr.add _ _).block ≠ _; rw [add_block]; exact hn115_4) | exact hn115_4) (.bool ((rd_T28 l0 x37_3).f4))).trans hx115_0
                     (try have hy115_0 := fun (n_ : Nat) => (show (((((((w31.drewN n_).setCell ⟨gb114, 0, none⟩ (.int .i64 ((rd_T28 l0 x37_3).f0))).setCell ⟨gb114, 1, none⟩ (.int .i64 ((rd_T28 l0 x37_3).f1))).setCell ⟨gb114, 2, none⟩ (.int .i64 ((rd_T28 l0 x37_3).f2))).setCell ⟨gb114, 3, none⟩ (.int .i64 ((rd_T28 l0 x37_3).f3))).setCell ⟨gb114, 4, none⟩ (.bool ((rd_T28 l0 x37_3).f4)))).cell? _ = some _ from ((congrArg (fun W_ : World => W_.cell? _) (show ((((((w31.drewN n_).setCell ⟨gb114, 0, none⟩ (.int .i64 ((rd_T28 l0 x37_3).f0))).setCell ⟨gb114, 1, none⟩ (.int .i64 ((rd_T28 l0 x37_3).f1))).setCell ⟨gb114, 2, none⟩ (.int .i64 ((rd_T28 l0 x37_3).f2))).setCell ⟨gb114, 3, none⟩ (.int .i64 ((rd_T28 l0 x37_3).f3))).setCell ⟨gb114, 4, none⟩ (.bool ((rd_T28 l0 x37_3).f4))) = World.drewN ((((((w31).setCell ⟨gb114, 0, none⟩ (.int .i64 ((rd_T28 l0 x37_3).f0))).setCell ⟨gb114, 1, none⟩ (.int .i64 ((rd_T28 l0 x37_3).f1))).setCell ⟨gb114, 2, none⟩ (.int .i64 ((rd_T28 l0 x37_3).f2))).setCell ⟨gb114, 3, none⟩ (.int .i64 ((rd_T28 l0 x37_3).f3))).setCell ⟨gb114, 4, none⟩ (.bool ((rd_T28 l0 x37_3).f4))) n_ from by simp only [setCell_dn])).trans ((World.cell?_drewN ((((((w31).setCell ⟨gb114, 0, none⟩ (.int .i64 ((rd_T28 l0 x37_3).f0))).setCell ⟨gb114, 1, none⟩ (.int .i64 ((rd_T28 l0 x37_3).f1))).setCell ⟨gb114, 2, none⟩ (.int .i64 ((rd_T28 l0 x37_3).f2))).setCell ⟨gb114, 3, none⟩ (.int .i64 ((rd_T28 l0 x37_3).f3))).setCell ⟨gb114, 4, none⟩ (.bool ((rd_T28 l0 x37_3).f4))) n_ _).trans hx115_0))))
                     clear hn115_0
                     clear hn115_1
                     clear hn115_2
                     clear hn115_3
                     clear hn115_4
                     replace p115 := eq_true p115
                     replace q115 := eq_true q115
                     go_wp2
                     repeat (go_quiet (fail); try go_wp2)
                     go_meet
                     case rel => exact ⟨_, (false), (by first | rfl | (simp; done) | (simp [*]; done)), H', ⟨by have := HK1.out; have := HK2.out; have := HK3.out; first | omega | exact Nat.le_refl _⟩, ⟨by (try simp only [hl3_3]); (with_reducible repeat (first | apply Kd.R_alloc | apply Kd.R_drewN | apply Kd.R_drew)); exact Kd.R_mono (Kd.R_far (p := ⟨gb114, 4, none⟩) (Kd.R_far (p := ⟨gb114, 3, none⟩) (Kd.R_far (p := ⟨gb114, 2, none⟩) (Kd.R_far (p := ⟨gb114, 1, none⟩) (Kd.R_far (p := ⟨gb114, 0, none⟩) (Kd.R_types HO_3.out BK114.out (by decide)) (fun _ hk => hk.2) (.int .i64 ((rd_T28 l0 x37_3).f0))) (fun _ hk => hk.2) (.int .i64 ((rd_T28 l0 x37_3).f1))) (fun _ hk => hk.2) (.int .i64 ((rd_T28 l0 x37_3).f2))) (fun _ hk => hk.2) (.int .i64 ((rd_T28 l0 x37_3).f3))) (fun _ hk => hk.2) (.bool ((rd_T28 l0 x37_3).f4))) (fun _ hk => trivial)⟩, ⟨by (try simp only [hl3_3]); (with_reducible repeat (first | refine blk_drewN ?_ _ | refine blk_drew ?_ | refine blk_alloc ?_ _)); refine blk_far ?_ NB109_114.out _; (with_reducible repeat (first | refine blk_drewN ?_ _ | refine blk_drew ?_ | refine blk_alloc ?_ _)); refine blk_far ?_ NB109_114.out _; (with_reducible repeat (first | refine blk_drewN ?_ _ | refine blk_drew ?_ | refine blk_alloc ?_ _)); refine blk_far ?_ NB109_114.out _; (with_reducible repeat (first | refine blk_drewN ?_ _ | refine blk_drew ?_ | refine blk_alloc ?_ _)); refine blk_far ?_ NB109_114.out _; (with_reducible repeat (first | refine blk_drewN ?_ _ | refine blk_drew ?_ | refine blk_alloc ?_ _)); refine blk_far ?_ NB109_114.out _; (with_reducible repeat (first | refine blk_drewN ?_ _ | refine blk_drew ?_ | refine blk_alloc ?_ _)); exact BK109.out⟩, ⟨by (try simp only [hl3_3]); (with_reducible repeat (first | refine blk_drewN ?_ _ | refine blk_drew ?_ | refine blk_alloc ?_ _)); refine blk_put (cs := #[.int .i64 ((rd_T28 l0 x37_3).f0), .int .i64 ((rd_T28 l0 x37_3).f1), .int .i64 ((rd_T28 l0 x37_3).f2), .int .i64 ((rd_T28 l0 x37_3).f3), .bool false]) ?_ 4 _ rfl; (with_reducible repeat (first | refine blk_drewN ?_ _ | refine blk_drew ?_ | refine blk_alloc ?_ _)); refine blk_put (cs := #[.int .i64 ((rd_T28 l0 x37_3).f0), .int .i64 ((rd_T28 l0 x37_3).f1), .int .i64 ((rd_T28 l0 x37_3).f2), .int .i64 0, .bool false]) ?_ 3 _ rfl; (with_reducible repeat (first | refine blk_drewN ?_ _ | refine blk_drew ?_ | refine blk_alloc ?_ _)); refine blk_put (cs := #[.int .i64 ((rd_T28 l0 x37_3).f0), .int .i64 ((rd_T28 l0 x37_3).f1), .int .i64 0, .int .i64 0, .bool false]) ?_ 2 _ rfl; (with_reducible repeat (first | refine blk_drewN ?_ _ | refine blk_drew ?_ | refine blk_alloc ?_ _)); refine blk_put (cs := #[.int .i64 ((rd_T28 l0 x37_3).f0), .int .i64 0, .int .i64 0, .int .i64 0, .bool false]) ?_ 1 _ rfl; (with_reducible repeat (first | refine blk_drewN ?_ _ | refine blk_drew ?_ | refine blk_alloc ?_ _)); refine blk_put (cs := #[.int .i64 0, .int .i64 0, .int .i64 0, .int .i64 0, .bool false]) ?_ 0 _ rfl; (with_reducible repeat (first | refine blk_drewN ?_ _ | refine blk_drew ?_ | refine blk_alloc ?_ _)); exact BK114.out⟩, ⟨by repeat (first | (with_reducible first | exact HB.out | apply below_alloc | apply pw_below_drewN | apply below_drew1 | refine below_set ?_ GE109.out | refine below_set ?_ GE114.out) | exact HB.out)⟩⟩
                   ·rw [if_neg c34] at H
                    exact absurd H (by simp)
                  case rest =>
                   clear HC30
                   try clear c1
                   try clear p1
                   try clear q1
                   try clear hx1
                   try clear hf1
                   try clear c2
                   try clear c2b0
                   try clear c2b1
                   try clear p2
                   try clear c3
                   try clear c3b0
                   try clear c3b1
                   try clear q3
                   try clear c4
                   try clear c6
                   try clear c6b0
                   try clear p6
                   try clear c7
                   try clear c7b0
                   try clear c8
                   try clear c8b0
                   try clear c9
                   try clear c9b0
                   try clear c10
                   try clear c10b0
                   try clear c10b1
                   try clear p10
                   try clear q10
                   try clear hx10
                   try clear p11
                   try clear q11
                   try clear hx11
                   try clear c15
                   try clear c15b0
                   try clear c15b1
                   try clear p16
                   try clear q16
                   try clear hx16
                   try clear hf16
                   try clear c24
                   try clear c27
                   try clear c27b0
                   try clear c28
                   try clear c28b0
                   try clear c29
                   try clear c29b0
                   try clear c32
                   try clear c34
                   try clear c34b0
                   try clear c35
                   try clear c35b0
                   try clear c35b1
                   try clear q36
                   try clear c37
                   try clear c38
                   try clear c38b0
                   try clear c38b1
                   try clear c39
                   try clear c39b0
                   try clear c39b1
                   try clear c40
                   try clear c43
                   try clear c46
                   try clear c49
                   try clear hcz12_0
                   try clear hcz12_1
                   try clear hcz12_2
                   try clear hcz12_3
                   try clear hcz12_4
                   try clear hcz18_0
                   try clear hcz18_1
                   try clear hcz18_2
                   try clear hcz18_3
                   try clear hcz18_4
                   try clear hcz21_0
                   try clear hcz21_1
                   try clear hcz21_2
                   try clear hcz21_3
                   try clear hcz21_4
                   try clear hcz25_0
                   try clear hcz25_1
                   try clear hcz25_2
                   try clear hcz25_3
                   try clear hcz25_4
                   try clear hcz33_0
                   try clear hcz33_1
                   try clear hcz33_2
                   try clear hcz33_3
                   try clear hcz33_4
                   try clear hcz41_0
                   try clear hcz41_1
                   try clear hcz41_2
                   try clear hcz41_3
                   try clear hcz41_4
                   try clear hcz42_0
                   try clear hcz42_1
                   try clear hcz42_2
                   try clear hcz42_3
                   try clear hcz42_4
                   try clear hcz44_0
                   try clear hcz44_1
                   try clear hcz44_2
                   try clear hcz44_3
                   try clear hcz44_4
                   try clear hcz45_0
                   try clear hcz45_1
                   try clear hcz45_2
                   try clear hcz45_3
                   try clear hcz45_4
                   try clear hcz47_0
                   try clear hcz47_1
                   try clear hcz47_2
                   try clear hcz47_3
                   try clear hcz47_4
                   try clear hcz48_0
                   try clear hcz48_1
                   try clear hcz48_2
                   try clear hcz48_3
                   try clear hcz48_4
                   try clear hcz50_0
                   try clear hcz50_1
                   try clear hcz50_2
                   try clear hcz50_3
                   try clear hcz50_4
                   try clear hfz12_0
                   try clear hfz12_1
                   try clear hfz12_2
                   try clear hfz12_3
                   try clear hfz12_4
                   try clear hfz18_0
                   try clear hfz18_1
                   try clear hfz18_2
                   try clear hfz18_3
                   try clear hfz18_4
                   try clear hfz21_0
                   try clear hfz21_1
                   try clear hfz21_2
                   try clear hfz21_3
                   try clear hfz21_4
                   try clear hfz25_0
                   try clear hfz25_1
                   try clear hfz25_2
                   try clear hfz25_3
                   try clear hfz25_4
                   try clear hfz33_0
                   try clear hfz33_1
                   try clear hfz33_2
                   try clear hfz33_3
                   try clear hfz33_4
                   try clear hfz41_0
                   try clear hfz41_1
                   try clear hfz41_2
                   try clear hfz41_3
                   try clear hfz41_4
                   try clear hfz42_0
                   try clear hfz42_1
                   try clear hfz42_2
                   try clear hfz42_3
                   try clear hfz42_4
                   try clear hfz44_0
                   try clear hfz44_1
                   try clear hfz44_2
                   try clear hfz44_3
                   try clear hfz44_4
                   try clear hfz45_0
                   try clear hfz45_1
                   try clear hfz45_2
                   try clear hfz45_3
                   try clear hfz45_4
                   try clear hfz47_0
                   try clear hfz47_1
                   try clear hfz47_2
                   try clear hfz47_3
                   try clear hfz47_4
                   try clear hfz48_0
                   try clear hfz48_1
                   try clear hfz48_2
                   try clear hfz48_3
                   try clear hfz48_4
                   try clear hfz50_0
                   try clear hfz50_1
                   try clear hfz50_2
                   try clear hfz50_3
                   try clear hfz50_4
                   try clear hx108_0
                   try clear hx108_1
                   try clear hx108_2
                   try clear hx108_3
                   try clear hx108_4
                   try clear hx110_0
                   try clear hx113_0
                   try clear hx113_1
                   try clear hx113_2
                   try clear hx113_3
                   try clear hx113_4
                   try clear hx115_0
                   try clear hx16_0
                   try clear p1
                   try clear p10
                   try clear p108
                   try clear p11
                   try clear p110
                   try clear p113
                   try clear p115
                   try clear p16
                   try clear p2
                   try clear p6
                   try clear q1
                   try clear q10
                   try clear q108
                   try clear q11
                   try clear q110
                   try clear q113
                   try clear q115
                   try clear q16
                   obtain ⟨kq, x71_29, rfl, HA, HJ29, HO_3, BK109, BK114, HB⟩ := hcut
                   cases kq with
                   | zero => exact absurd HA.out (by simp [right_held.j3])
                   | succ kj29 =>
                    have H := HA.out
                    clear HA
                    simp only [right_held.j3] at H
                    by_cases c51 : x71_29 = true
                    ·subst c51
                     have H1 : (if 0 ≤ x16_2 then (if x16_2 < (x3_3.length : Int) then (right_held.l0 kj29 l0 (x3_3.set (x16_2 : Int).toNat 1)) else (none)) else (none)) = some r := by rw [if_pos rfl] at H; exact H
                     clear H
                     have H := H1
                     clear H1
                     by_cases c52 : 0 ≤ x16_2
                     ·rw [if_pos c52] at H
                      have c52b0 : decide (0 ≤ x16_2) = true := decide_eq_true c52
                      (try (have c52z0_0 := c52b0; simp only [hl3_3] at c52z0_0))
                      clear c52
                      by_cases c53 : x16_2 < (x3_3.length : Int)
                      ·rw [if_pos c53] at H
                       have c53b0 : decide (x16_2 < (x3_3.length : Int)) = true := decide_eq_true c53
                       (try (have c53z0_0 := c53b0; simp only [hl3_3] at c53z0_0))
                       clear c53
                       obtain ⟨y116, hy116⟩ : ∃ y_ : List Int, y_ = (x3_3.set (x16_2 : Int).toNat 1) := ⟨_, rfl⟩
                       replace H : (right_held.l0 kj29 l0 y116) = some r := by first | (rw [hy116]; with_reducible exact H) | (have H2_ := (Option.bind_some _ _).symm.trans H; rw [hy116]; with_reducible exact H2_) | (have H2_ := (Option.bind_some _ _).symm.trans H; with_reducible exact H2_) | with_reducible exact H | (rw [hy116]; exact H) | exact H
                       have Ny116 := Aside0.mk hy116
                       clear hy116
                       have H' := Aside0.mk H
                       clear H
                       have p54 : 0 ≤ (x16_2 : Int) := of_decide_eq_true (by first | (with_reducible assumption) | assumption)
                       have q54 : (x16_2 : Int) < ((x3_3.length : Int) : Int) := of_decide_eq_true (by first | (with_reducible assumption) | assumption)
                       obtain ⟨go54, co54, eo54, gb54, gl54, cl54, HG54⟩ := Kd.R_form HO_3.out (by omega)
                       (first | cases eo54 | (injection eo54 with ea_ en_ ec_; (first | subst ea_ | (injection ea_ with ea_; subst ea_)); subst ec_; clear en_))
                       have GB54 := Aside0.mk gb54
                       have GG54 := Aside0.mk HG54
                       clear gb54 gl54 HG54
                       (first | simp only [add_plain] at hx110_0 | skip)
                       (first | simp only [add_plain] at hx115_0 | skip)
                       obtain ⟨hx54_0, hf54_0⟩ := Kd.R_celln 0 HO_3.out (x16_2 : Int) p54 q54
                       replace p54 := eq_true p54
                       replace q54 := eq_true q54
                       have HP55 := Kd.R_putg HO_3.out (x16_2 : Int) 1
                       go_wp2_with (first | ((with_reducible refine gate_store (t := 3) (p := 74) rfl ?_); (try (rw [drewN_self wc]; generalize hq_ : World.drewN wc _ = wc; have n0_ := Aside0.mk (Kd.R_at hq_ HO_3.out); have n1_ := Aside0.mk (blk_at hq_ BK109.out); have n2_ := Aside0.mk (blk_at hq_ BK114.out); have n3_ := Aside0.mk (below_at hq_ HB.out); clear hq_ HO_3 BK109 BK114 HB; have HO_3 := n0_; have BK109 := n1_; have BK114 := n2_; have HB := n3_; clear n0_ n1_ n2_ n3_; (try (have HP55 := Kd.R_putg HO_3.out (x16_2 : Int) 1)))); refine store_event (t := 3) (p := 74) (v := ?vo_w56) (w1 := (wc.setCell ⟨go54, (x16_2 : Int).toNat, none⟩ (.int .i64 1))) ?hg ?ho ?hn ?hr ?_; (case ho => rfl); (case hg => rfl); (case hn => rfl); (case hr => first | (go_simp; done) | (go_simp; rfl)); intro w56 hw; have hg : wc.grownBy w56 (some go54) := (by rw [hw]; exact HP55.2); have hp_ : Kd.R (Kd.int .i64) 3 w56 w.heap.size (fun _ => True) (.slice (some ⟨go54, 0, none⟩) x3_3.length co26) y116 := (by rw [hw, Ny116.out]; exact HP55.1); clear HP55; have n0_ := Aside0.mk (hp_); have n1_ := Aside0.mk (blk_grown (g := gb109) (o := .cells #[.int .i64 ((rd_T28 l0 x16_2).f0), .int .i64 ((rd_T28 l0 x16_2).f1), .int .i64 ((rd_T28 l0 x16_2).f2), .int .i64 ((rd_T28 l0 x16_2).f3), .bool ((rd_T28 l0 x16_2).f4)] 28 (0, 0)) (by (with_reducible repeat (first | refine blk_drewN ?_ _ | refine blk_drew ?_ | refine blk_alloc ?_ _)); exact BK109.out) hg (Kd.R_ne HO_3.out BK109.out (by decide))); have n2_ := Aside0.mk (blk_grown (g := gb114) (o := .cells #[.int .i64 ((rd_T28 l0 x37_3).f0), .int .i64 ((rd_T28 l0 x37_3).f1), .int .i64 ((rd_T28 l0 x37_3).f2), .int .i64 ((rd_T28 l0 x37_3).f3), .bool ((rd_T28 l0 x37_3).f4)] 28 (0, 0)) (by (with_reducible repeat (first | refine blk_drewN ?_ _ | refine blk_drew ?_ | refine blk_alloc ?_ _)); exact BK114.out) hg (Kd.R_ne HO_3.out BK114.out (by decide))); have n3_ := Aside0.mk ((by rw [hw]; exact below_set (HB.out) GB54.out : Below w.heap.size w w56)); clear HO_3; clear BK109; clear BK114; clear HB; have HO_3 := n0_; have BK109 := n1_; have BK114 := n2_; have HB := n3_; clear n0_ n1_ n2_ n3_; clear hg hw hp_))
                       repeat (go_quiet (first | ((with_reducible refine gate_store (t := 3) (p := 74) rfl ?_); (try (rw [drewN_self wc]; generalize hq_ : World.drewN wc _ = wc; have n0_ := Aside0.mk (Kd.R_at hq_ HO_3.out); have n1_ := Aside0.mk (blk_at hq_ BK109.out); have n2_ := Aside0.mk (blk_at hq_ BK114.out); have n3_ := Aside0.mk (below_at hq_ HB.out); clear hq_ HO_3 BK109 BK114 HB; have HO_3 := n0_; have BK109 := n1_; have BK114 := n2_; have HB := n3_; clear n0_ n1_ n2_ n3_; (try (have HP55 := Kd.R_putg HO_3.out (x16_2 : Int) 1)))); refine store_event (t := 3) (p := 74) (v := ?vo_w56) (w1 := (wc.setCell ⟨go54, (x16_2 : Int).toNat, none⟩ (.int .i64 1))) ?hg ?ho ?hn ?hr ?_; (case ho => rfl); (case hg => rfl); (case hn => rfl); (case hr => first | (go_simp; done) | (go_simp; rfl)); intro w56 hw; have hg : wc.grownBy w56 (some go54) := (by rw [hw]; exact HP55.2); have hp_ : Kd.R (Kd.int .i64) 3 w56 w.heap.size (fun _ => True) (.slice (some ⟨go54, 0, none⟩) x3_3.length co26) y116 := (by rw [hw, Ny116.out]; exact HP55.1); clear HP55; have n0_ := Aside0.mk (hp_); have n1_ := Aside0.mk (blk_grown (g := gb109) (o := .cells #[.int .i64 ((rd_T28 l0 x16_2).f0), .int .i64 ((rd_T28 l0 x16_2).f1), .int .i64 ((rd_T28 l0 x16_2).f2), .int .i64 ((rd_T28 l0 x16_2).f3), .bool ((rd_T28 l0 x16_2).f4)] 28 (0, 0)) (by (with_reducible repeat (first | refine blk_drewN ?_ _ | refine blk_drew ?_ | refine blk_alloc ?_ _)); exact BK109.out) hg (Kd.R_ne HO_3.out BK109.out (by decide))); have n2_ := Aside0.mk (blk_grown (g := gb114) (o := .cells #[.int .i64 ((rd_T28 l0 x37_3).f0), .int .i64 ((rd_T28 l0 x37_3).f1), .int .i64 ((rd_T28 l0 x37_3).f2), .int .i64 ((rd_T28 l0 x37_3).f3), .bool ((rd_T28 l0 x37_3).f4)] 28 (0, 0)) (by (with_reducible repeat (first | refine blk_drewN ?_ _ | refine blk_drew ?_ | refine blk_alloc ?_ _)); exact BK114.out) hg (Kd.R_ne HO_3.out BK114.out (by decide))); have n3_ := Aside0.mk ((by rw [hw]; exact below_set (HB.out) GB54.out : Below w.heap.size w w56)); clear HO_3; clear BK109; clear BK114; clear HB; have HO_3 := n0_; have BK109 := n1_; have BK114 := n2_; have HB := n3_; clear n0_ n1_ n2_ n3_; clear hg hw hp_)); try go_wp2_with (first | ((with_reducible refine gate_store (t := 3) (p := 74) rfl ?_); (try (rw [drewN_self wc]; generalize hq_ : World.drewN wc _ = wc; have n0_ := Aside0.mk (Kd.R_at hq_ HO_3.out); have n1_ := Aside0.mk (blk_at hq_ BK109.out); have n2_ := Aside0.mk (blk_at hq_ BK114.out); have n3_ := Aside0.mk (below_at hq_ HB.out); clear hq_ HO_3 BK109 BK114 HB; have HO_3 := n0_; have BK109 := n1_; have BK114 := n2_; have HB := n3_; clear n0_ n1_ n2_ n3_; (try (have HP55 := Kd.R_putg HO_3.out (x16_2 : Int) 1)))); refine store_event (t := 3) (p := 74) (v := ?vo_w56) (w1 := (wc.setCell ⟨go54, (x16_2 : Int).toNat, none⟩ (.int .i64 1))) ?hg ?ho ?hn ?hr ?_; (case ho => rfl); (case hg => rfl); (case hn => rfl); (case hr => first | (go_simp; done) | (go_simp; rfl)); intro w56 hw; have hg : wc.grownBy w56 (some go54) := (by rw [hw]; exact HP55.2); have hp_ : Kd.R (Kd.int .i64) 3 w56 w.heap.size (fun _ => True) (.slice (some ⟨go54, 0, none⟩) x3_3.length co26) y116 := (by rw [hw, Ny116.out]; exact HP55.1); clear HP55; have n0_ := Aside0.mk (hp_); have n1_ := Aside0.mk (blk_grown (g := gb109) (o := .cells #[.int .i64 ((rd_T28 l0 x16_2).f0), .int .i64 ((rd_T28 l0 x16_2).f1), .int .i64 ((rd_T28 l0 x16_2).f2), .int .i64 ((rd_T28 l0 x16_2).f3), .bool ((rd_T28 l0 x16_2).f4)] 28 (0, 0)) (by (with_reducible repeat (first | refine blk_drewN ?_ _ | refine blk_drew ?_ | refine blk_alloc ?_ _)); exact BK109.out) hg (Kd.R_ne HO_3.out BK109.out (by decide))); have n2_ := Aside0.mk (blk_grown (g := gb114) (o := .cells #[.int .i64 ((rd_T28 l0 x37_3).f0), .int .i64 ((rd_T28 l0 x37_3).f1), .int .i64 ((rd_T28 l0 x37_3).f2), .int .i64 ((rd_T28 l0 x37_3).f3), .bool ((rd_T28 l0 x37_3).f4)] 28 (0, 0)) (by (with_reducible repeat (first | refine blk_drewN ?_ _ | refine blk_drew ?_ | refine blk_alloc ?_ _)); exact BK114.out) hg (Kd.R_ne HO_3.out BK114.out (by decide))); have n3_ := Aside0.mk ((by rw [hw]; exact below_set (HB.out) GB54.out : Below w.heap.size w w56)); clear HO_3; clear BK109; clear BK114; clear HB; have HO_3 := n0_; have BK109 := n1_; have BK114 := n2_; have HB := n3_; clear n0_ n1_ n2_ n3_; clear hg hw hp_)))
                       (try simp only [← hl3_3])
                       go_step3
                       exact ⟨rfl, kj29, by have := HK1.out; have := HK2.out; have := HK3.out; have := HJ29.out; omega, _, (y116), put_u rfl ⟨H', ⟨by have := HK1.out; have := HK2.out; have := HK3.out; have := HJ29.out; omega⟩, ⟨by (try simp only [hl3_3]); (with_reducible repeat (first | apply Kd.R_alloc | apply Kd.R_drewN | apply Kd.R_drew)); exact HO_3.out⟩, ⟨by repeat (first | (with_reducible first | exact HB.out | apply below_alloc | apply pw_below_drewN | apply below_drew1 | refine below_set ?_ GE109.out | refine below_set ?_ GE114.out) | exact HB.out)⟩⟩⟩
                      ·rw [if_neg c53] at H
                       exact absurd H (by simp)
                     ·rw [if_neg c52] at H
                      exact absurd H (by simp)
                    ·replace c51 := Bool.eq_false_iff.mpr c51
                     subst c51
                     have H1 : (right_held.l2 kj29 l0 x3_3 x16_2 l0 (l0.length : Int) x16_2 l0 (l0.length : Int) (wrap64 (x37_3 + 1)) ((rd_T28 l0 x16_2).f0) ((rd_T28 l0 x16_2).f1) ((rd_T28 l0 x16_2).f2) ((rd_T28 l0 x16_2).f3) ((rd_T28 l0 x16_2).f4)) = some r := by rw [if_neg (show ¬ (false = true) by decide)] at H; exact H
                     clear H
                     have H := H1
                     clear H1
                     have H' := Aside0.mk H
                     clear H
                     go_wp2
                     repeat (go_quiet (fail); try go_wp2)
                     (try simp only [← hl3_3])
                     go_roundg kj29
                     case measure => have := HK1.out; have := HK2.out; have := HK3.out; have := HJ29.out; omega
                     case rel => exact ⟨(x3_3), (wrap64 (x37_3 + 1)), (by first | rfl | (simp; done) | (simp [*]; done)), H', ⟨by have := HK1.out; have := HK2.out; have := HK3.out; have := HJ29.out; omega⟩, ⟨by (try simp only [hl3_3]); (with_reducible repeat (first | apply Kd.R_alloc | apply Kd.R_drewN | apply Kd.R_drew)); exact HO_3.out⟩, ⟨by (try simp only [hl3_3]); (with_reducible repeat (first | refine blk_drewN ?_ _ | refine blk_drew ?_ | refine blk_alloc ?_ _)); exact BK109.out⟩, ⟨by repeat (first | (with_reducible first | exact HB.out | apply below_alloc | apply pw_below_drewN | apply below_drew1 | refine below_set ?_ GE109.out | refine below_set ?_ GE114.out) | exact HB.out)⟩⟩
                 ·rw [if_neg c29] at H
                  exact absurd H (by simp)
                ·rw [if_neg c28] at H
                 exact absurd H (by simp)
               ·rw [if_neg c27] at H
                have c27b0 : decide (x37_3 < (l0.length : Int)) = false := decide_eq_false c27
                (try (have c27z0_0 := c27b0; simp only [hl3_3] at c27z0_0))
                clear c27
                have H' := Aside0.mk H
                clear H
                go_wp2
                repeat (go_quiet (fail); try go_wp2)
                (try simp only [← hl3_3])
                go_roundg k3
                case measure => have := HK1.out; have := HK2.out; have := HK3.out; omega
                case rel => exact ⟨(x3_3), (wrap64 (x16_2 + 1)), (by first | rfl | (simp; done) | (simp [*]; done)), H', ⟨by have := HK1.out; have := HK2.out; have := HK3.out; omega⟩, ⟨by (try simp only [hl3_3]); (with_reducible repeat (first | apply Kd.R_alloc | apply Kd.R_drewN | apply Kd.R_drew)); exact HO_3.out⟩, ⟨by repeat (first | (with_reducible first | exact HB.out | apply below_alloc | apply pw_below_drewN | apply below_drew1 | refine below_set ?_ GE109.out) | exact HB.out)⟩⟩
          ·rw [if_neg c9] at H
           exact absurd H (by simp)
         ·rw [if_neg c8] at H
          exact absurd H (by simp)
        ·rw [if_neg c7] at H
         exact absurd H (by simp)
       ·rw [if_neg c6] at H
        have c6b0 : decide (x16_2 < (l0.length : Int)) = false := decide_eq_false c6
        clear c6
        have H' := Aside0.mk H
        clear H
        go_wp2
        repeat (go_quiet (fail); try go_wp2)
        go_loopg [8, 79] k2 (fun kq v8 v79 w' => ∃ (x8_3 : List (S28)) (x79_3 : Int), v79 = .int .i64 x79_3 ∧ Aside0 (right_held.l3 kq x3_2 x8_3 l0 (l0.length : Int) x79_3 = some r) ∧ Aside0 (kq ≤ k2) ∧ Aside0 (Kd.R (Kd.int .i64) 3 w' w.heap.size (fun _ => True) v106 x3_2) ∧ Aside0 (Kd.R k28 28 w' w.heap.size (fun _ => True) v8 x8_3) ∧ Aside0 (Below w.heap.size w w'))
        case atStart => exact ⟨(([] : List (S28))), (0), (by first | rfl | (simp; done) | (simp [*]; done)), H', ⟨Nat.le_refl _⟩, ⟨by (with_reducible repeat (first | apply Kd.R_alloc | apply Kd.R_drewN | apply Kd.R_drew)); exact HO_3.out⟩, ⟨by first | exact Kd.R_nil _ _ _ _ _ | exact Kd.N_nil _ _ _ _ _ | exact Kd.V_nil _ _ _ _ _ | exact Kd.Q_nil _ _ _ _ _ | exact Kd.S_nil _ _ _ _ _⟩, ⟨by repeat (first | (with_reducible first | exact HB.out | apply below_alloc | apply pw_below_drewN | apply below_drew1) | exact HB.out)⟩⟩
        case round =>
         clear H'
         try clear c1
         try clear p1
         try clear q1
         try clear hx1
         try clear hf1
         try clear c2
         try clear c2b0
         try clear c2b1
         try clear p2
         try clear c3
         try clear c3b0
         try clear c3b1
         try clear q3
         try clear c4
         try clear c5
         try clear p5
         try clear q5
         try clear hx5
         try clear hf5
         try clear c6
         try clear c6b0
         try clear p6
         try clear c7
         try clear c7b0
         try clear c8
         try clear c8b0
         try clear c9
         try clear c9b0
         try clear c10
         try clear c10b0
         try clear c10b1
         try clear p10
         try clear q10
         try clear hx10
         try clear p11
         try clear q11
         try clear hx11
         try clear c15
         try clear c15b0
         try clear c15b1
         try clear p16
         try clear q16
         try clear hx16
         try clear hf16
         try clear c24
         try clear c27
         try clear c27b0
         try clear c28
         try clear c28b0
         try clear c29
         try clear c29b0
         try clear c32
         try clear c34
         try clear c34b0
         try clear c35
         try clear c35b0
         try clear c35b1
         try clear q36
         try clear c37
         try clear c38
         try clear c38b0
         try clear c38b1
         try clear c39
         try clear c39b0
         try clear c39b1
         try clear c40
         try clear c43
         try clear c46
         try clear c49
         try clear c51
         try clear c52
         try clear c52b0
         try clear c53
         try clear c53b0
         try clear p54
         try clear q54
         try clear hx54
         try clear hf54
         try clear hcz12_0
         try clear hcz12_1
         try clear hcz12_2
         try clear hcz12_3
         try clear hcz12_4
         try clear hcz18_0
         try clear hcz18_1
         try clear hcz18_2
         try clear hcz18_3
         try clear hcz18_4
         try clear hcz21_0
         try clear hcz21_1
         try clear hcz21_2
         try clear hcz21_3
         try clear hcz21_4
         try clear hcz25_0
         try clear hcz25_1
         try clear hcz25_2
         try clear hcz25_3
         try clear hcz25_4
         try clear hcz33_0
         try clear hcz33_1
         try clear hcz33_2
         try clear hcz33_3
         try clear hcz33_4
         try clear hcz41_0
         try clear hcz41_1
         try clear hcz41_2
         try clear hcz41_3
         try clear hcz41_4
         try clear hcz42_0
         try clear hcz42_1
         try clear hcz42_2
         try clear hcz42_3
         try clear hcz42_4
         try clear hcz44_0
         try clear hcz44_1
         try clear hcz44_2
         try clear hcz44_3
         try clear hcz44_4
         try clear hcz45_0
         try clear hcz45_1
         try clear hcz45_2
         try clear hcz45_3
         try clear hcz45_4
         try clear hcz47_0
         try clear hcz47_1
         try clear hcz47_2
         try clear hcz47_3
         try clear hcz47_4
         try clear hcz48_0
         try clear hcz48_1
         try clear hcz48_2
         try clear hcz48_3
         try clear hcz48_4
         try clear hcz50_0
         try clear hcz50_1
         try clear hcz50_2
         try clear hcz50_3
         try clear hcz50_4
         try clear hfz12_0
         try clear hfz12_1
         try clear hfz12_2
         try clear hfz12_3
         try clear hfz12_4
         try clear hfz18_0
         try clear hfz18_1
         try clear hfz18_2
         try clear hfz18_3
         try clear hfz18_4
         try clear hfz21_0
         try clear hfz21_1
         try clear hfz21_2
         try clear hfz21_3
         try clear hfz21_4
         try clear hfz25_0
         try clear hfz25_1
         try clear hfz25_2
         try clear hfz25_3
         try clear hfz25_4
         try clear hfz33_0
         try clear hfz33_1
         try clear hfz33_2
         try clear hfz33_3
         try clear hfz33_4
         try clear hfz41_0
         try clear hfz41_1
         try clear hfz41_2
         try clear hfz41_3
         try clear hfz41_4
         try clear hfz42_0
         try clear hfz42_1
         try clear hfz42_2
         try clear hfz42_3
         try clear hfz42_4
         try clear hfz44_0
         try clear hfz44_1
         try clear hfz44_2
         try clear hfz44_3
         try clear hfz44_4
         try clear hfz45_0
         try clear hfz45_1
         try clear hfz45_2
         try clear hfz45_3
         try clear hfz45_4
         try clear hfz47_0
         try clear hfz47_1
         try clear hfz47_2
         try clear hfz47_3
         try clear hfz47_4
         try clear hfz48_0
         try clear hfz48_1
         try clear hfz48_2
         try clear hfz48_3
         try clear hfz48_4
         try clear hfz50_0
         try clear hfz50_1
         try clear hfz50_2
         try clear hfz50_3
         try clear hfz50_4
         try clear hx108_0
         try clear hx108_1
         try clear hx108_2
         try clear hx108_3
         try clear hx108_4
         try clear hx110_0
         try clear hx113_0
         try clear hx113_1
         try clear hx113_2
         try clear hx113_3
         try clear hx113_4
         try clear hx115_0
         try clear hx16_0
         try clear hx54_0
         try clear p1
         try clear p10
         try clear p108
         try clear p11
         try clear p110
         try clear p113
         try clear p115
         try clear p16
         try clear p2
         try clear p54
         try clear p6
         try clear q1
         try clear q10
         try clear q108
         try clear q11
         try clear q110
         try clear q113
         try clear q115
         try clear q16
         try clear q3
         try clear q36
         try clear q54
         obtain ⟨x8_3, x79_3, rfl, HA, HK3, HO_3, HO_8, HB⟩ := hrel
         cases gk with
         | zero => exact absurd HA.out (by simp [right_held.l3])
         | succ k3 =>
          have H := HA.out
          clear HA
          simp only [right_held.l3] at H
          by_cases c57 : x79_3 < (l0.length : Int)
          ·rw [if_pos c57] at H
           have c57b0 : decide (x79_3 < (l0.length : Int)) = true := decide_eq_true c57
           clear c57
           by_cases c58 : 0 ≤ x79_3
           ·rw [if_pos c58] at H
            have c58b0 : decide (0 ≤ x79_3) = true := decide_eq_true c58
            clear c58
            by_cases c59 : x79_3 < (l0.length : Int)
            ·rw [if_pos c59] at H
             have c59b0 : decide (x79_3 < (l0.length : Int)) = true := decide_eq_true c59
             clear c59
             by_cases c60 : x79_3 < (x3_2.length : Int)
             ·rw [if_pos c60] at H
              have c60b0 : decide (x79_3 < (x3_2.length : Int)) = true := decide_eq_true c60
              clear c60
              by_cases c61 : (rd x3_2 x79_3) = 1
              ·rw [if_pos c61] at H
               have c61b0 : ((rd x3_2 x79_3) == 1) = true := beq_iff_eq.mpr c61
               have c61b1 : ((rd x3_2 x79_3) != 1) = false := bne_eq_false_iff_eq.mpr c61
               clear c61
               by_cases c62 : x8_3.length < 3518437208883
               ·rw [if_pos c62] at H
                have LMc62 := Aside0.mk c62
                clear c62
                obtain ⟨y120, hy120⟩ : ∃ y_ : List (S28), y_ = (x8_3 ++ [(⟨(rd_T28 l0 x79_3).f0, (rd_T28 l0 x79_3).f1, (rd_T28 l0 x79_3).f2, (rd_T28 l0 x79_3).f3, (rd_T28 l0 x79_3).f4⟩ : S28)]) := ⟨_, rfl⟩
                replace H : (right_held.l3 k3 x3_2 y120 l0 (l0.length : Int) (wrap64 (x79_3 + 1))) = some r := by first | (rw [hy120]; with_reducible exact H) | (have H2_ := (Option.bind_some _ _).symm.trans H; rw [hy120]; with_reducible exact H2_) | (have H2_ := (Option.bind_some _ _).symm.trans H; with_reducible exact H2_) | with_reducible exact H | (rw [hy120]; exact H) | exact H
                have Ny120 := Aside0.mk hy120
                clear hy120
                have H' := Aside0.mk H
                clear H
                have p117 : 0 ≤ (x79_3 : Int) := of_decide_eq_true (by first | (with_reducible assumption) | assumption)
                have q117 : x79_3 < (l0.length : Int) := of_decide_eq_true (by first | (with_reducible assumption) | assumption)
                obtain ⟨ad117, e117, hx117_0, hx117_1, hx117_2, hx117_3, hx117_4⟩ := at_T28 HR0.out x79_3 p117 q117
                cases e117
                replace hx117_0 := (HB.out.cell (World.block_lt_of_cell? w _ hx117_0)).trans hx117_0
                replace hx117_1 := (HB.out.cell (World.block_lt_of_cell? w _ hx117_1)).trans hx117_1
                replace hx117_2 := (HB.out.cell (World.block_lt_of_cell? w _ hx117_2)).trans hx117_2
                replace hx117_3 := (HB.out.cell (World.block_lt_of_cell? w _ hx117_3)).trans hx117_3
                replace hx117_4 := (HB.out.cell (World.block_lt_of_cell? w _ hx117_4)).trans hx117_4
                replace p117 := eq_true p117
                replace q117 := eq_true q117
                go_wp2_with (first | ((with_reducible refine gate_dst (N := 10) rfl ?_); refine box_event ?hg (N := 10) ?hd (cs := #[.int .i64 0, .int .i64 0, .int .i64 0, .int .i64 0, .bool false]) (t := 28) ?hr ?_; (case hd => rfl); (case hg => rfl); (case hr => first | (go_simp; done) | (go_simp; rfl)); intro gb118 hg w63 hbox hb; have n0_ := Aside0.mk (Kd.R_below (by (with_reducible repeat (first | apply Kd.R_alloc | apply Kd.R_drewN | apply Kd.R_drew)); exact HO_3.out) hb); have n1_ := Aside0.mk (Kd.R_below (Kd.R_elderB (by (with_reducible repeat (first | apply Kd.R_alloc | apply Kd.R_drewN | apply Kd.R_drew)); exact HO_8.out) gb118 (Nat.le_of_eq hg.symm)) hb); have n2_ := Aside0.mk (below_step (by repeat (first | (with_reducible first | exact HB.out | apply below_alloc | apply pw_below_drewN | apply below_drew1) | exact HB.out)) hb); have n3_ := Aside0.mk (hbox); have n4_ := Aside0.mk ((by rw [hg]; exact (below_size (by repeat (first | (with_reducible first | exact HB.out | apply below_alloc | apply pw_below_drewN | apply below_drew1) | exact HB.out))) : w.heap.size ≤ gb118)); have n5_ := Aside0.mk ((by rw [hg]; exact (below_size (by repeat (first | (with_reducible first | exact HB.out | apply below_alloc | apply pw_below_drewN | apply below_drew1) | exact HB.out))) : w.heap.size ≤ gb118)); clear HO_3; clear HO_8; clear HB; have HO_3 := n0_; have HO_8 := n1_; have HB := n2_; have BK118 := n3_; have GW118 := n4_; have GE118 := n5_; clear n0_ n1_ n2_ n3_ n4_ n5_; clear hb hbox hg; have hcz64_0 : w63.cell? ⟨gb118, 0, none⟩ = some (.int .i64 0) := (blk_cell BK118.out 0).trans rfl; have hcz64_1 : w63.cell? ⟨gb118, 1, none⟩ = some (.int .i64 0) := (blk_cell BK118.out 1).trans rfl; have hcz64_2 : w63.cell? ⟨gb118, 2, none⟩ = some (.int .i64 0) := (blk_cell BK118.out 2).trans rfl; have hcz64_3 : w63.cell? ⟨gb118, 3, none⟩ = some (.int .i64 0) := (blk_cell BK118.out 3).trans rfl; have hcz64_4 : w63.cell? ⟨gb118, 4, none⟩ = some (.bool false) := (blk_cell BK118.out 4).trans rfl; have hfz64_0 := blk_frozen BK118.out 0; have hfz64_1 := blk_frozen BK118.out 1; have hfz64_2 := blk_frozen BK118.out 2; have hfz64_3 := blk_frozen BK118.out 3; have hfz64_4 := blk_frozen BK118.out 4; obtain ⟨Ao65, co65, eo65⟩ := Kd.R_slice HO_3.out; subst eo65; have p119 : 0 ≤ (x79_3 : Int) := of_decide_eq_true (by first | (with_reducible assumption) | assumption); have q119 : x79_3 < (x3_2.length : Int) := of_decide_eq_true (by first | (with_reducible assumption) | assumption); obtain ⟨ad119, e119, hx119_0⟩ := Kd.at_int (Kd.R_reads' HO_3.out).2.2 x79_3 p119 q119; cases e119; have hn119_0 : ad119.block ≠ gb118 := Kd.own_blk (Kd.R_ne HO_3.out BK118.out (by decide)); have hn119_1 : ad119.block ≠ gb118 := Kd.own_blk (Kd.R_ne HO_3.out BK118.out (by decide)); have hn119_2 : ad119.block ≠ gb118 := Kd.own_blk (Kd.R_ne HO_3.out BK118.out (by decide)); have hn119_3 : ad119.block ≠ gb118 := Kd.own_blk (Kd.R_ne HO_3.out BK118.out (by decide)); have hn119_4 : ad119.block ≠ gb118 := Kd.own_blk (Kd.R_ne HO_3.out BK118.out (by decide)); replace hx119_0 := (cell_far (p := ⟨gb118, 0, none⟩) (by first | (rw [add_block]; exact hn119_0) | (show (Addr.add _ _).block ≠ _; rw [add_block]; exact hn119_0) | exact hn119_0) (.int .i64 ((rd_T28 l0 x79_3).f0))).trans hx119_0; replace hx119_0 := (cell_far (p := ⟨gb118, 1, none⟩) (by first | (rw [add_block]; exact hn119_1) | (show (Addr.add _ _).block ≠ _; rw [add_block]; exact hn119_1) | exact hn119_1) (.int .i64 ((rd_T28 l0 x79_3).f1))).trans hx119_0; replace hx119_0 := (cell_far (p := ⟨gb118, 2, none⟩) (by first | (rw [add_block]; exact hn119_2) | (show (Addr.add _ _).block ≠ _; rw [add_block]; exact hn119_2) | exact hn119_2) (.int .i64 ((rd_T28 l0 x79_3).f2))).trans hx119_0; replace hx119_0 := (cell_far (p := ⟨gb118, 3, none⟩) (by first | (rw [add_block]; exact hn119_3) | (show (Addr.add _ _).block ≠ _; rw [add_block]; exact hn119_3) | exact hn119_3) (.int .i64 ((rd_T28 l0 x79_3).f3))).trans hx119_0; replace hx119_0 := (cell_far (p := ⟨gb118, 4, none⟩) (by first | (rw [add_block]; exact hn119_4) | (show (Addr.add _ _).block ≠ _; rw [add_block]; exact hn119_4) | exact hn119_4) (.bool ((rd_T28 l0 x79_3).f4))).trans hx119_0; (try have hy119_0 := fun (n_ : Nat) => (show (((((((w63.drewN n_).setCell ⟨gb118, 0, none⟩ (.int .i64 ((rd_T28 l0 x79_3).f0))).setCell ⟨gb118, 1, none⟩ (.int .i64 ((rd_T28 l0 x79_3).f1))).setCell ⟨gb118, 2, none⟩ (.int .i64 ((rd_T28 l0 x79_3).f2))).setCell ⟨gb118, 3, none⟩ (.int .i64 ((rd_T28 l0 x79_3).f3))).setCell ⟨gb118, 4, none⟩ (.bool ((rd_T28 l0 x79_3).f4)))).cell? _ = some _ from ((congrArg (fun W_ : World => W_.cell? _) (show ((((((w63.drewN n_).setCell ⟨gb118, 0, none⟩ (.int .i64 ((rd_T28 l0 x79_3).f0))).setCell ⟨gb118, 1, none⟩ (.int .i64 ((rd_T28 l0 x79_3).f1))).setCell ⟨gb118, 2, none⟩ (.int .i64 ((rd_T28 l0 x79_3).f2))).setCell ⟨gb118, 3, none⟩ (.int .i64 ((rd_T28 l0 x79_3).f3))).setCell ⟨gb118, 4, none⟩ (.bool ((rd_T28 l0 x79_3).f4))) = World.drewN ((((((w63).setCell ⟨gb118, 0, none⟩ (.int .i64 ((rd_T28 l0 x79_3).f0))).setCell ⟨gb118, 1, none⟩ (.int .i64 ((rd_T28 l0 x79_3).f1))).setCell ⟨gb118, 2, none⟩ (.int .i64 ((rd_T28 l0 x79_3).f2))).setCell ⟨gb118, 3, none⟩ (.int .i64 ((rd_T28 l0 x79_3).f3))).setCell ⟨gb118, 4, none⟩ (.bool ((rd_T28 l0 x79_3).f4))) n_ from by simp only [setCell_dn])).trans ((World.cell?_drewN ((((((w63).setCell ⟨gb118, 0, none⟩ (.int .i64 ((rd_T28 l0 x79_3).f0))).setCell ⟨gb118, 1, none⟩ (.int .i64 ((rd_T28 l0 x79_3).f1))).setCell ⟨gb118, 2, none⟩ (.int .i64 ((rd_T28 l0 x79_3).f2))).setCell ⟨gb118, 3, none⟩ (.int .i64 ((rd_T28 l0 x79_3).f3))).setCell ⟨gb118, 4, none⟩ (.bool ((rd_T28 l0 x79_3).f4))) n_ _).trans hx119_0)))); clear hn119_0; clear hn119_1; clear hn119_2; clear hn119_3; clear hn119_4; replace p119 := eq_true p119; replace q119 := eq_true q119) | ((with_reducible refine gate_builtin (b := .append) (xs := #[.tmp 89, .tmp 91]) rfl ?_); at_builtin; refine Kd.R_append k28 (w0 := w) w.heap.size rfl (.tmp 89) (.tmp 91) 23 28 (.agg #[(.int .i64 0), (.int .i64 0), (.int .i64 0), (.int .i64 0), (.bool false)]) 40 rfl Try.underlying23 info28 rfl (by decide) (by omega) u8 x8_3 (⟨(rd_T28 l0 x79_3).f0, (rd_T28 l0 x79_3).f1, (rd_T28 l0 x79_3).f2, (rd_T28 l0 x79_3).f3, (rd_T28 l0 x79_3).f4⟩ : S28) [.int .i64 ((rd_T28 l0 x79_3).f0), .int .i64 ((rd_T28 l0 x79_3).f1), .int .i64 ((rd_T28 l0 x79_3).f2), .int .i64 ((rd_T28 l0 x79_3).f3), .bool ((rd_T28 l0 x79_3).f4)] (fun k_ => k_ ≠ gb118) (fun _ => False) rfl (by first | (go_simp; done) | (go_simp; rfl)) ?aP (fun _ hk => hk.elim) ?aF ?aO ?aB ?aS ?aL ?_; (case aP => exact k28_mkM _ _ _ (⟨(rd_T28 l0 x79_3).f0, (rd_T28 l0 x79_3).f1, (rd_T28 l0 x79_3).f2, (rd_T28 l0 x79_3).f3, (rd_T28 l0 x79_3).f4⟩ : S28)); (case aB => exact (by repeat (first | (with_reducible first | exact HB.out | apply below_alloc | apply pw_below_drewN | apply below_drew1 | refine below_set ?_ GE118.out) | exact HB.out))); (case aF => exact (fun k_ hk => Kd.freshB (g := gb118) (o := .cells #[.int .i64 ((rd_T28 l0 x79_3).f0), .int .i64 ((rd_T28 l0 x79_3).f1), .int .i64 ((rd_T28 l0 x79_3).f2), .int .i64 ((rd_T28 l0 x79_3).f3), .bool ((rd_T28 l0 x79_3).f4)] 28 (0, 0)) (by (with_reducible repeat (first | refine blk_drewN ?_ _ | refine blk_drew ?_ | refine blk_alloc ?_ _)); refine blk_put (cs := #[.int .i64 ((rd_T28 l0 x79_3).f0), .int .i64 ((rd_T28 l0 x79_3).f1), .int .i64 ((rd_T28 l0 x79_3).f2), .int .i64 ((rd_T28 l0 x79_3).f3), .bool false]) ?_ 4 _ rfl; (with_reducible repeat (first | refine blk_drewN ?_ _ | refine blk_drew ?_ | refine blk_alloc ?_ _)); refine blk_put (cs := #[.int .i64 ((rd_T28 l0 x79_3).f0), .int .i64 ((rd_T28 l0 x79_3).f1), .int .i64 ((rd_T28 l0 x79_3).f2), .int .i64 0, .bool false]) ?_ 3 _ rfl; (with_reducible repeat (first | refine blk_drewN ?_ _ | refine blk_drew ?_ | refine blk_alloc ?_ _)); refine blk_put (cs := #[.int .i64 ((rd_T28 l0 x79_3).f0), .int .i64 ((rd_T28 l0 x79_3).f1), .int .i64 0, .int .i64 0, .bool false]) ?_ 2 _ rfl; (with_reducible repeat (first | refine blk_drewN ?_ _ | refine blk_drew ?_ | refine blk_alloc ?_ _)); refine blk_put (cs := #[.int .i64 ((rd_T28 l0 x79_3).f0), .int .i64 0, .int .i64 0, .int .i64 0, .bool false]) ?_ 1 _ rfl; (with_reducible repeat (first | refine blk_drewN ?_ _ | refine blk_drew ?_ | refine blk_alloc ?_ _)); refine blk_put (cs := #[.int .i64 0, .int .i64 0, .int .i64 0, .int .i64 0, .bool false]) ?_ 0 _ rfl; (with_reducible repeat (first | refine blk_drewN ?_ _ | refine blk_drew ?_ | refine blk_alloc ?_ _)); exact BK118.out) k_ hk)); (case aO => exact (by (with_reducible repeat (first | apply Kd.R_alloc | apply Kd.R_drewN | apply Kd.R_drew)); exact Kd.R_mono (Kd.R_far (p := ⟨gb118, 4, none⟩) (Kd.R_far (p := ⟨gb118, 3, none⟩) (Kd.R_far (p := ⟨gb118, 2, none⟩) (Kd.R_far (p := ⟨gb118, 1, none⟩) (Kd.R_far (p := ⟨gb118, 0, none⟩) (Kd.R_mono HO_8.out (fun k_ hk => (⟨hk, hk.2⟩ : _ ∧ k_ ≠ gb118))) (fun _ hk => hk.2) (.int .i64 ((rd_T28 l0 x79_3).f0))) (fun _ hk => hk.2) (.int .i64 ((rd_T28 l0 x79_3).f1))) (fun _ hk => hk.2) (.int .i64 ((rd_T28 l0 x79_3).f2))) (fun _ hk => hk.2) (.int .i64 ((rd_T28 l0 x79_3).f3))) (fun _ hk => hk.2) (.bool ((rd_T28 l0 x79_3).f4))) (fun _ hk => hk.1.2))); (case aS => exact (below_size (by repeat (first | (with_reducible first | exact HB.out | apply below_alloc | apply pw_below_drewN | apply below_drew1 | refine below_set ?_ GE118.out) | exact HB.out)))); (case aL => have := LMc62.out; omega); intro v121 w66 ho hb hg hat; rw [← Ny120.out] at ho; have n0_ := Aside0.mk (Kd.R_over' (by (with_reducible repeat (first | apply Kd.R_alloc | apply Kd.R_drewN | apply Kd.R_drew)); exact (Kd.R_mono (Kd.R_far (p := ⟨gb118, 4, none⟩) (Kd.R_far (p := ⟨gb118, 3, none⟩) (Kd.R_far (p := ⟨gb118, 2, none⟩) (Kd.R_far (p := ⟨gb118, 1, none⟩) (Kd.R_far (p := ⟨gb118, 0, none⟩) (Kd.R_types HO_3.out BK118.out (by decide)) (fun _ hk => hk.2) (.int .i64 ((rd_T28 l0 x79_3).f0))) (fun _ hk => hk.2) (.int .i64 ((rd_T28 l0 x79_3).f1))) (fun _ hk => hk.2) (.int .i64 ((rd_T28 l0 x79_3).f2))) (fun _ hk => hk.2) (.int .i64 ((rd_T28 l0 x79_3).f3))) (fun _ hk => hk.2) (.bool ((rd_T28 l0 x79_3).f4))) (fun _ h_ => h_.1))) (Kd.R_typed (by (with_reducible repeat (first | apply Kd.R_alloc | apply Kd.R_drewN | apply Kd.R_drew)); exact (Kd.R_mono (Kd.R_far (p := ⟨gb118, 4, none⟩) (Kd.R_far (p := ⟨gb118, 3, none⟩) (Kd.R_far (p := ⟨gb118, 2, none⟩) (Kd.R_far (p := ⟨gb118, 1, none⟩) (Kd.R_far (p := ⟨gb118, 0, none⟩) (Kd.R_mono HO_8.out (fun k_ hk => (⟨hk, hk.2⟩ : _ ∧ k_ ≠ gb118))) (fun _ hk => hk.2) (.int .i64 ((rd_T28 l0 x79_3).f0))) (fun _ hk => hk.2) (.int .i64 ((rd_T28 l0 x79_3).f1))) (fun _ hk => hk.2) (.int .i64 ((rd_T28 l0 x79_3).f2))) (fun _ hk => hk.2) (.int .i64 ((rd_T28 l0 x79_3).f3))) (fun _ hk => hk.2) (.bool ((rd_T28 l0 x79_3).f4))) (fun _ h_ => h_.1)))) (by decide) hg); have n1_ := Aside0.mk (blk_grown (g := gb118) (o := .cells #[.int .i64 ((rd_T28 l0 x79_3).f0), .int .i64 ((rd_T28 l0 x79_3).f1), .int .i64 ((rd_T28 l0 x79_3).f2), .int .i64 ((rd_T28 l0 x79_3).f3), .bool ((rd_T28 l0 x79_3).f4)] 28 (0, 0)) (by (with_reducible repeat (first | refine blk_drewN ?_ _ | refine blk_drew ?_ | refine blk_alloc ?_ _)); refine blk_put (cs := #[.int .i64 ((rd_T28 l0 x79_3).f0), .int .i64 ((rd_T28 l0 x79_3).f1), .int .i64 ((rd_T28 l0 x79_3).f2), .int .i64 ((rd_T28 l0 x79_3).f3), .bool false]) ?_ 4 _ rfl; (with_reducible repeat (first | refine blk_drewN ?_ _ | refine blk_drew ?_ | refine blk_alloc ?_ _)); refine blk_put (cs := #[.int .i64 ((rd_T28 l0 x79_3).f0), .int .i64 ((rd_T28 l0 x79_3).f1), .int .i64 ((rd_T28 l0 x79_3).f2), .int .i64 0, .bool false]) ?_ 3 _ rfl; (with_reducible repeat (first | refine blk_drewN ?_ _ | refine blk_drew ?_ | refine blk_alloc ?_ _)); refine blk_put (cs := #[.int .i64 ((rd_T28 l0 x79_3).f0), .int .i64 ((rd_T28 l0 x79_3).f1), .int .i64 0, .int .i64 0, .bool false]) ?_ 2 _ rfl; (with_reducible repeat (first | refine blk_drewN ?_ _ | refine blk_drew ?_ | refine blk_alloc ?_ _)); refine blk_put (cs := #[.int .i64 ((rd_T28 l0 x79_3).f0), .int .i64 0, .int .i64 0, .int .i64 0, .bool false]) ?_ 1 _ rfl; (with_reducible repeat (first | refine blk_drewN ?_ _ | refine blk_drew ?_ | refine blk_alloc ?_ _)); refine blk_put (cs := #[.int .i64 0, .int .i64 0, .int .i64 0, .int .i64 0, .bool false]) ?_ 0 _ rfl; (with_reducible repeat (first | refine blk_drewN ?_ _ | refine blk_drew ?_ | refine blk_alloc ?_ _)); exact BK118.out) hg (Kd.R_away HO_8.out (fun _ hk => hk.2))); have n2_ := Aside0.mk (hb); have n3_ := Aside0.mk (ho); clear HO_3; clear BK118; clear HB; clear HO_8; have HO_3 := n0_; have BK118 := n1_; have HB := n2_; have HO122 := n3_; clear n0_ n1_ n2_ n3_; clear ho hb hg hat))
                repeat (go_quiet (first | ((with_reducible refine gate_dst (N := 10) rfl ?_); refine box_event ?hg (N := 10) ?hd (cs := #[.int .i64 0, .int .i64 0, .int .i64 0, .int .i64 0, .bool false]) (t := 28) ?hr ?_; (case hd => rfl); (case hg => rfl); (case hr => first | (go_simp; done) | (go_simp; rfl)); intro gb118 hg w63 hbox hb; have n0_ := Aside0.mk (Kd.R_below (by (with_reducible repeat (first | apply Kd.R_alloc | apply Kd.R_drewN | apply Kd.R_drew)); exact HO_3.out) hb); have n1_ := Aside0.mk (Kd.R_below (Kd.R_elderB (by (with_reducible repeat (first | apply Kd.R_alloc | apply Kd.R_drewN | apply Kd.R_drew)); exact HO_8.out) gb118 (Nat.le_of_eq hg.symm)) hb); have n2_ := Aside0.mk (below_step (by repeat (first | (with_reducible first | exact HB.out | apply below_alloc | apply pw_below_drewN | apply below_drew1) | exact HB.out)) hb); have n3_ := Aside0.mk (hbox); have n4_ := Aside0.mk ((by rw [hg]; exact (below_size (by repeat (first | (with_reducible first | exact HB.out | apply below_alloc | apply pw_below_drewN | apply below_drew1) | exact HB.out))) : w.heap.size ≤ gb118)); have n5_ := Aside0.mk ((by rw [hg]; exact (below_size (by repeat (first | (with_reducible first | exact HB.out | apply below_alloc | apply pw_below_drewN | apply below_drew1) | exact HB.out))) : w.heap.size ≤ gb118)); clear HO_3; clear HO_8; clear HB; have HO_3 := n0_; have HO_8 := n1_; have HB := n2_; have BK118 := n3_; have GW118 := n4_; have GE118 := n5_; clear n0_ n1_ n2_ n3_ n4_ n5_; clear hb hbox hg; have hcz64_0 : w63.cell? ⟨gb118, 0, none⟩ = some (.int .i64 0) := (blk_cell BK118.out 0).trans rfl; have hcz64_1 : w63.cell? ⟨gb118, 1, none⟩ = some (.int .i64 0) := (blk_cell BK118.out 1).trans rfl; have hcz64_2 : w63.cell? ⟨gb118, 2, none⟩ = some (.int .i64 0) := (blk_cell BK118.out 2).trans rfl; have hcz64_3 : w63.cell? ⟨gb118, 3, none⟩ = some (.int .i64 0) := (blk_cell BK118.out 3).trans rfl; have hcz64_4 : w63.cell? ⟨gb118, 4, none⟩ = some (.bool false) := (blk_cell BK118.out 4).trans rfl; have hfz64_0 := blk_frozen BK118.out 0; have hfz64_1 := blk_frozen BK118.out 1; have hfz64_2 := blk_frozen BK118.out 2; have hfz64_3 := blk_frozen BK118.out 3; have hfz64_4 := blk_frozen BK118.out 4; obtain ⟨Ao65, co65, eo65⟩ := Kd.R_slice HO_3.out; subst eo65; have p119 : 0 ≤ (x79_3 : Int) := of_decide_eq_true (by first | (with_reducible assumption) | assumption); have q119 : x79_3 < (x3_2.length : Int) := of_decide_eq_true (by first | (with_reducible assumption) | assumption); obtain ⟨ad119, e119, hx119_0⟩ := Kd.at_int (Kd.R_reads' HO_3.out).2.2 x79_3 p119 q119; cases e119; have hn119_0 : ad119.block ≠ gb118 := Kd.own_blk (Kd.R_ne HO_3.out BK118.out (by decide)); have hn119_1 : ad119.block ≠ gb118 := Kd.own_blk (Kd.R_ne HO_3.out BK118.out (by decide)); have hn119_2 : ad119.block ≠ gb118 := Kd.own_blk (Kd.R_ne HO_3.out BK118.out (by decide)); have hn119_3 : ad119.block ≠ gb118 := Kd.own_blk (Kd.R_ne HO_3.out BK118.out (by decide)); have hn119_4 : ad119.block ≠ gb118 := Kd.own_blk (Kd.R_ne HO_3.out BK118.out (by decide)); replace hx119_0 := (cell_far (p := ⟨gb118, 0, none⟩) (by first | (rw [add_block]; exact hn119_0) | (show (Addr.add _ _).block ≠ _; rw [add_block]; exact hn119_0) | exact hn119_0) (.int .i64 ((rd_T28 l0 x79_3).f0))).trans hx119_0; replace hx119_0 := (cell_far (p := ⟨gb118, 1, none⟩) (by first | (rw [add_block]; exact hn119_1) | (show (Addr.add _ _).block ≠ _; rw [add_block]; exact hn119_1) | exact hn119_1) (.int .i64 ((rd_T28 l0 x79_3).f1))).trans hx119_0; replace hx119_0 := (cell_far (p := ⟨gb118, 2, none⟩) (by first | (rw [add_block]; exact hn119_2) | (show (Addr.add _ _).block ≠ _; rw [add_block]; exact hn119_2) | exact hn119_2) (.int .i64 ((rd_T28 l0 x79_3).f2))).trans hx119_0; replace hx119_0 := (cell_far (p := ⟨gb118, 3, none⟩) (by first | (rw [add_block]; exact hn119_3) | (show (Addr.add _ _).block ≠ _; rw [add_block]; exact hn119_3) | exact hn119_3) (.int .i64 ((rd_T28 l0 x79_3).f3))).trans hx119_0; replace hx119_0 := (cell_far (p := ⟨gb118, 4, none⟩) (by first | (rw [add_block]; exact hn119_4) | (show (Addr.add _ _).block ≠ _; rw [add_block]; exact hn119_4) | exact hn119_4) (.bool ((rd_T28 l0 x79_3).f4))).trans hx119_0; (try have hy119_0 := fun (n_ : Nat) => (show (((((((w63.drewN n_).setCell ⟨gb118, 0, none⟩ (.int .i64 ((rd_T28 l0 x79_3).f0))).setCell ⟨gb118, 1, none⟩ (.int .i64 ((rd_T28 l0 x79_3).f1))).setCell ⟨gb118, 2, none⟩ (.int .i64 ((rd_T28 l0 x79_3).f2))).setCell ⟨gb118, 3, none⟩ (.int .i64 ((rd_T28 l0 x79_3).f3))).setCell ⟨gb118, 4, none⟩ (.bool ((rd_T28 l0 x79_3).f4)))).cell? _ = some _ from ((congrArg (fun W_ : World => W_.cell? _) (show ((((((w63.drewN n_).setCell ⟨gb118, 0, none⟩ (.int .i64 ((rd_T28 l0 x79_3).f0))).setCell ⟨gb118, 1, none⟩ (.int .i64 ((rd_T28 l0 x79_3).f1))).setCell ⟨gb118, 2, none⟩ (.int .i64 ((rd_T28 l0 x79_3).f2))).setCell ⟨gb118, 3, none⟩ (.int .i64 ((rd_T28 l0 x79_3).f3))).setCell ⟨gb118, 4, none⟩ (.bool ((rd_T28 l0 x79_3).f4))) = World.drewN ((((((w63).setCell ⟨gb118, 0, none⟩ (.int .i64 ((rd_T28 l0 x79_3).f0))).setCell ⟨gb118, 1, none⟩ (.int .i64 ((rd_T28 l0 x79_3).f1))).setCell ⟨gb118, 2, none⟩ (.int .i64 ((rd_T28 l0 x79_3).f2))).setCell ⟨gb118, 3, none⟩ (.int .i64 ((rd_T28 l0 x79_3).f3))).setCell ⟨gb118, 4, none⟩ (.bool ((rd_T28 l0 x79_3).f4))) n_ from by simp only [setCell_dn])).trans ((World.cell?_drewN ((((((w63).setCell ⟨gb118, 0, none⟩ (.int .i64 ((rd_T28 l0 x79_3).f0))).setCell ⟨gb118, 1, none⟩ (.int .i64 ((rd_T28 l0 x79_3).f1))).setCell ⟨gb118, 2, none⟩ (.int .i64 ((rd_T28 l0 x79_3).f2))).setCell ⟨gb118, 3, none⟩ (.int .i64 ((rd_T28 l0 x79_3).f3))).setCell ⟨gb118, 4, none⟩ (.bool ((rd_T28 l0 x79_3).f4))) n_ _).trans hx119_0)))); clear hn119_0; clear hn119_1; clear hn119_2; clear hn119_3; clear hn119_4; replace p119 := eq_true p119; replace q119 := eq_true q119) | ((with_reducible refine gate_builtin (b := .append) (xs := #[.tmp 89, .tmp 91]) rfl ?_); at_builtin; refine Kd.R_append k28 (w0 := w) w.heap.size rfl (.tmp 89) (.tmp 91) 23 28 (.agg #[(.int .i64 0), (.int .i64 0), (.int .i64 0), (.int .i64 0), (.bool false)]) 40 rfl Try.underlying23 info28 rfl (by decide) (by omega) u8 x8_3 (⟨(rd_T28 l0 x79_3).f0, (rd_T28 l0 x79_3).f1, (rd_T28 l0 x79_3).f2, (rd_T28 l0 x79_3).f3, (rd_T28 l0 x79_3).f4⟩ : S28) [.int .i64 ((rd_T28 l0 x79_3).f0), .int .i64 ((rd_T28 l0 x79_3).f1), .int .i64 ((rd_T28 l0 x79_3).f2), .int .i64 ((rd_T28 l0 x79_3).f3), .bool ((rd_T28 l0 x79_3).f4)] (fun k_ => k_ ≠ gb118) (fun _ => False) rfl (by first | (go_simp; done) | (go_simp; rfl)) ?aP (fun _ hk => hk.elim) ?aF ?aO ?aB ?aS ?aL ?_; (case aP => exact k28_mkM _ _ _ (⟨(rd_T28 l0 x79_3).f0, (rd_T28 l0 x79_3).f1, (rd_T28 l0 x79_3).f2, (rd_T28 l0 x79_3).f3, (rd_T28 l0 x79_3).f4⟩ : S28)); (case aB => exact (by repeat (first | (with_reducible first | exact HB.out | apply below_alloc | apply pw_below_drewN | apply below_drew1 | refine below_set ?_ GE118.out) | exact HB.out))); (case aF => exact (fun k_ hk => Kd.freshB (g := gb118) (o := .cells #[.int .i64 ((rd_T28 l0 x79_3).f0), .int .i64 ((rd_T28 l0 x79_3).f1), .int .i64 ((rd_T28 l0 x79_3).f2), .int .i64 ((rd_T28 l0 x79_3).f3), .bool ((rd_T28 l0 x79_3).f4)] 28 (0, 0)) (by (with_reducible repeat (first | refine blk_drewN ?_ _ | refine blk_drew ?_ | refine blk_alloc ?_ _)); refine blk_put (cs := #[.int .i64 ((rd_T28 l0 x79_3).f0), .int .i64 ((rd_T28 l0 x79_3).f1), .int .i64 ((rd_T28 l0 x79_3).f2), .int .i64 ((rd_T28 l0 x79_3).f3), .bool false]) ?_ 4 _ rfl; (with_reducible repeat (first | refine blk_drewN ?_ _ | refine blk_drew ?_ | refine blk_alloc ?_ _)); refine blk_put (cs := #[.int .i64 ((rd_T28 l0 x79_3).f0), .int .i64 ((rd_T28 l0 x79_3).f1), .int .i64 ((rd_T28 l0 x79_3).f2), .int .i64 0, .bool false]) ?_ 3 _ rfl; (with_reducible repeat (first | refine blk_drewN ?_ _ | refine blk_drew ?_ | refine blk_alloc ?_ _)); refine blk_put (cs := #[.int .i64 ((rd_T28 l0 x79_3).f0), .int .i64 ((rd_T28 l0 x79_3).f1), .int .i64 0, .int .i64 0, .bool false]) ?_ 2 _ rfl; (with_reducible repeat (first | refine blk_drewN ?_ _ | refine blk_drew ?_ | refine blk_alloc ?_ _)); refine blk_put (cs := #[.int .i64 ((rd_T28 l0 x79_3).f0), .int .i64 0, .int .i64 0, .int .i64 0, .bool false]) ?_ 1 _ rfl; (with_reducible repeat (first | refine blk_drewN ?_ _ | refine blk_drew ?_ | refine blk_alloc ?_ _)); refine blk_put (cs := #[.int .i64 0, .int .i64 0, .int .i64 0, .int .i64 0, .bool false]) ?_ 0 _ rfl; (with_reducible repeat (first | refine blk_drewN ?_ _ | refine blk_drew ?_ | refine blk_alloc ?_ _)); exact BK118.out) k_ hk)); (case aO => exact (by (with_reducible repeat (first | apply Kd.R_alloc | apply Kd.R_drewN | apply Kd.R_drew)); exact Kd.R_mono (Kd.R_far (p := ⟨gb118, 4, none⟩) (Kd.R_far (p := ⟨gb118, 3, none⟩) (Kd.R_far (p := ⟨gb118, 2, none⟩) (Kd.R_far (p := ⟨gb118, 1, none⟩) (Kd.R_far (p := ⟨gb118, 0, none⟩) (Kd.R_mono HO_8.out (fun k_ hk => (⟨hk, hk.2⟩ : _ ∧ k_ ≠ gb118))) (fun _ hk => hk.2) (.int .i64 ((rd_T28 l0 x79_3).f0))) (fun _ hk => hk.2) (.int .i64 ((rd_T28 l0 x79_3).f1))) (fun _ hk => hk.2) (.int .i64 ((rd_T28 l0 x79_3).f2))) (fun _ hk => hk.2) (.int .i64 ((rd_T28 l0 x79_3).f3))) (fun _ hk => hk.2) (.bool ((rd_T28 l0 x79_3).f4))) (fun _ hk => hk.1.2))); (case aS => exact (below_size (by repeat (first | (with_reducible first | exact HB.out | apply below_alloc | apply pw_below_drewN | apply below_drew1 | refine below_set ?_ GE118.out) | exact HB.out)))); (case aL => have := LMc62.out; omega); intro v121 w66 ho hb hg hat; rw [← Ny120.out] at ho; have n0_ := Aside0.mk (Kd.R_over' (by (with_reducible repeat (first | apply Kd.R_alloc | apply Kd.R_drewN | apply Kd.R_drew)); exact (Kd.R_mono (Kd.R_far (p := ⟨gb118, 4, none⟩) (Kd.R_far (p := ⟨gb118, 3, none⟩) (Kd.R_far (p := ⟨gb118, 2, none⟩) (Kd.R_far (p := ⟨gb118, 1, none⟩) (Kd.R_far (p := ⟨gb118, 0, none⟩) (Kd.R_types HO_3.out BK118.out (by decide)) (fun _ hk => hk.2) (.int .i64 ((rd_T28 l0 x79_3).f0))) (fun _ hk => hk.2) (.int .i64 ((rd_T28 l0 x79_3).f1))) (fun _ hk => hk.2) (.int .i64 ((rd_T28 l0 x79_3).f2))) (fun _ hk => hk.2) (.int .i64 ((rd_T28 l0 x79_3).f3))) (fun _ hk => hk.2) (.bool ((rd_T28 l0 x79_3).f4))) (fun _ h_ => h_.1))) (Kd.R_typed (by (with_reducible repeat (first | apply Kd.R_alloc | apply Kd.R_drewN | apply Kd.R_drew)); exact (Kd.R_mono (Kd.R_far (p := ⟨gb118, 4, none⟩) (Kd.R_far (p := ⟨gb118, 3, none⟩) (Kd.R_far (p := ⟨gb118, 2, none⟩) (Kd.R_far (p := ⟨gb118, 1, none⟩) (Kd.R_far (p := ⟨gb118, 0, none⟩) (Kd.R_mono HO_8.out (fun k_ hk => (⟨hk, hk.2⟩ : _ ∧ k_ ≠ gb118))) (fun _ hk => hk.2) (.int .i64 ((rd_T28 l0 x79_3).f0))) (fun _ hk => hk.2) (.int .i64 ((rd_T28 l0 x79_3).f1))) (fun _ hk => hk.2) (.int .i64 ((rd_T28 l0 x79_3).f2))) (fun _ hk => hk.2) (.int .i64 ((rd_T28 l0 x79_3).f3))) (fun _ hk => hk.2) (.bool ((rd_T28 l0 x79_3).f4))) (fun _ h_ => h_.1)))) (by decide) hg); have n1_ := Aside0.mk (blk_grown (g := gb118) (o := .cells #[.int .i64 ((rd_T28 l0 x79_3).f0), .int .i64 ((rd_T28 l0 x79_3).f1), .int .i64 ((rd_T28 l0 x79_3).f2), .int .i64 ((rd_T28 l0 x79_3).f3), .bool ((rd_T28 l0 x79_3).f4)] 28 (0, 0)) (by (with_reducible repeat (first | refine blk_drewN ?_ _ | refine blk_drew ?_ | refine blk_alloc ?_ _)); refine blk_put (cs := #[.int .i64 ((rd_T28 l0 x79_3).f0), .int .i64 ((rd_T28 l0 x79_3).f1), .int .i64 ((rd_T28 l0 x79_3).f2), .int .i64 ((rd_T28 l0 x79_3).f3), .bool false]) ?_ 4 _ rfl; (with_reducible repeat (first | refine blk_drewN ?_ _ | refine blk_drew ?_ | refine blk_alloc ?_ _)); refine blk_put (cs := #[.int .i64 ((rd_T28 l0 x79_3).f0), .int .i64 ((rd_T28 l0 x79_3).f1), .int .i64 ((rd_T28 l0 x79_3).f2), .int .i64 0, .bool false]) ?_ 3 _ rfl; (with_reducible repeat (first | refine blk_drewN ?_ _ | refine blk_drew ?_ | refine blk_alloc ?_ _)); refine blk_put (cs := #[.int .i64 ((rd_T28 l0 x79_3).f0), .int .i64 ((rd_T28 l0 x79_3).f1), .int .i64 0, .int .i64 0, .bool false]) ?_ 2 _ rfl; (with_reducible repeat (first | refine blk_drewN ?_ _ | refine blk_drew ?_ | refine blk_alloc ?_ _)); refine blk_put (cs := #[.int .i64 ((rd_T28 l0 x79_3).f0), .int .i64 0, .int .i64 0, .int .i64 0, .bool false]) ?_ 1 _ rfl; (with_reducible repeat (first | refine blk_drewN ?_ _ | refine blk_drew ?_ | refine blk_alloc ?_ _)); refine blk_put (cs := #[.int .i64 0, .int .i64 0, .int .i64 0, .int .i64 0, .bool false]) ?_ 0 _ rfl; (with_reducible repeat (first | refine blk_drewN ?_ _ | refine blk_drew ?_ | refine blk_alloc ?_ _)); exact BK118.out) hg (Kd.R_away HO_8.out (fun _ hk => hk.2))); have n2_ := Aside0.mk (hb); have n3_ := Aside0.mk (ho); clear HO_3; clear BK118; clear HB; clear HO_8; have HO_3 := n0_; have BK118 := n1_; have HB := n2_; have HO122 := n3_; clear n0_ n1_ n2_ n3_; clear ho hb hg hat)); try go_wp2_with (first | ((with_reducible refine gate_dst (N := 10) rfl ?_); refine box_event ?hg (N := 10) ?hd (cs := #[.int .i64 0, .int .i64 0, .int .i64 0, .int .i64 0, .bool false]) (t := 28) ?hr ?_; (case hd => rfl); (case hg => rfl); (case hr => first | (go_simp; done) | (go_simp; rfl)); intro gb118 hg w63 hbox hb; have n0_ := Aside0.mk (Kd.R_below (by (with_reducible repeat (first | apply Kd.R_alloc | apply Kd.R_drewN | apply Kd.R_drew)); exact HO_3.out) hb); have n1_ := Aside0.mk (Kd.R_below (Kd.R_elderB (by (with_reducible repeat (first | apply Kd.R_alloc | apply Kd.R_drewN | apply Kd.R_drew)); exact HO_8.out) gb118 (Nat.le_of_eq hg.symm)) hb); have n2_ := Aside0.mk (below_step (by repeat (first | (with_reducible first | exact HB.out | apply below_alloc | apply pw_below_drewN | apply below_drew1) | exact HB.out)) hb); have n3_ := Aside0.mk (hbox); have n4_ := Aside0.mk ((by rw [hg]; exact (below_size (by repeat (first | (with_reducible first | exact HB.out | apply below_alloc | apply pw_below_drewN | apply below_drew1) | exact HB.out))) : w.heap.size ≤ gb118)); have n5_ := Aside0.mk ((by rw [hg]; exact (below_size (by repeat (first | (with_reducible first | exact HB.out | apply below_alloc | apply pw_below_drewN | apply below_drew1) | exact HB.out))) : w.heap.size ≤ gb118)); clear HO_3; clear HO_8; clear HB; have HO_3 := n0_; have HO_8 := n1_; have HB := n2_; have BK118 := n3_; have GW118 := n4_; have GE118 := n5_; clear n0_ n1_ n2_ n3_ n4_ n5_; clear hb hbox hg; have hcz64_0 : w63.cell? ⟨gb118, 0, none⟩ = some (.int .i64 0) := (blk_cell BK118.out 0).trans rfl; have hcz64_1 : w63.cell? ⟨gb118, 1, none⟩ = some (.int .i64 0) := (blk_cell BK118.out 1).trans rfl; have hcz64_2 : w63.cell? ⟨gb118, 2, none⟩ = some (.int .i64 0) := (blk_cell BK118.out 2).trans rfl; have hcz64_3 : w63.cell? ⟨gb118, 3, none⟩ = some (.int .i64 0) := (blk_cell BK118.out 3).trans rfl; have hcz64_4 : w63.cell? ⟨gb118, 4, none⟩ = some (.bool false) := (blk_cell BK118.out 4).trans rfl; have hfz64_0 := blk_frozen BK118.out 0; have hfz64_1 := blk_frozen BK118.out 1; have hfz64_2 := blk_frozen BK118.out 2; have hfz64_3 := blk_frozen BK118.out 3; have hfz64_4 := blk_frozen BK118.out 4; obtain ⟨Ao65, co65, eo65⟩ := Kd.R_slice HO_3.out; subst eo65; have p119 : 0 ≤ (x79_3 : Int) := of_decide_eq_true (by first | (with_reducible assumption) | assumption); have q119 : x79_3 < (x3_2.length : Int) := of_decide_eq_true (by first | (with_reducible assumption) | assumption); obtain ⟨ad119, e119, hx119_0⟩ := Kd.at_int (Kd.R_reads' HO_3.out).2.2 x79_3 p119 q119; cases e119; have hn119_0 : ad119.block ≠ gb118 := Kd.own_blk (Kd.R_ne HO_3.out BK118.out (by decide)); have hn119_1 : ad119.block ≠ gb118 := Kd.own_blk (Kd.R_ne HO_3.out BK118.out (by decide)); have hn119_2 : ad119.block ≠ gb118 := Kd.own_blk (Kd.R_ne HO_3.out BK118.out (by decide)); have hn119_3 : ad119.block ≠ gb118 := Kd.own_blk (Kd.R_ne HO_3.out BK118.out (by decide)); have hn119_4 : ad119.block ≠ gb118 := Kd.own_blk (Kd.R_ne HO_3.out BK118.out (by decide)); replace hx119_0 := (cell_far (p := ⟨gb118, 0, none⟩) (by first | (rw [add_block]; exact hn119_0) | (show (Addr.add _ _).block ≠ _; rw [add_block]; exact hn119_0) | exact hn119_0) (.int .i64 ((rd_T28 l0 x79_3).f0))).trans hx119_0; replace hx119_0 := (cell_far (p := ⟨gb118, 1, none⟩) (by first | (rw [add_block]; exact hn119_1) | (show (Addr.add _ _).block ≠ _; rw [add_block]; exact hn119_1) | exact hn119_1) (.int .i64 ((rd_T28 l0 x79_3).f1))).trans hx119_0; replace hx119_0 := (cell_far (p := ⟨gb118, 2, none⟩) (by first | (rw [add_block]; exact hn119_2) | (show (Addr.add _ _).block ≠ _; rw [add_block]; exact hn119_2) | exact hn119_2) (.int .i64 ((rd_T28 l0 x79_3).f2))).trans hx119_0; replace hx119_0 := (cell_far (p := ⟨gb118, 3, none⟩) (by first | (rw [add_block]; exact hn119_3) | (show (Addr.add _ _).block ≠ _; rw [add_block]; exact hn119_3) | exact hn119_3) (.int .i64 ((rd_T28 l0 x79_3).f3))).trans hx119_0; replace hx119_0 := (cell_far (p := ⟨gb118, 4, none⟩) (by first | (rw [add_block]; exact hn119_4) | (show (Addr.add _ _).block ≠ _; rw [add_block]; exact hn119_4) | exact hn119_4) (.bool ((rd_T28 l0 x79_3).f4))).trans hx119_0; (try have hy119_0 := fun (n_ : Nat) => (show (((((((w63.drewN n_).setCell ⟨gb118, 0, none⟩ (.int .i64 ((rd_T28 l0 x79_3).f0))).setCell ⟨gb118, 1, none⟩ (.int .i64 ((rd_T28 l0 x79_3).f1))).setCell ⟨gb118, 2, none⟩ (.int .i64 ((rd_T28 l0 x79_3).f2))).setCell ⟨gb118, 3, none⟩ (.int .i64 ((rd_T28 l0 x79_3).f3))).setCell ⟨gb118, 4, none⟩ (.bool ((rd_T28 l0 x79_3).f4)))).cell? _ = some _ from ((congrArg (fun W_ : World => W_.cell? _) (show ((((((w63.drewN n_).setCell ⟨gb118, 0, none⟩ (.int .i64 ((rd_T28 l0 x79_3).f0))).setCell ⟨gb118, 1, none⟩ (.int .i64 ((rd_T28 l0 x79_3).f1))).setCell ⟨gb118, 2, none⟩ (.int .i64 ((rd_T28 l0 x79_3).f2))).setCell ⟨gb118, 3, none⟩ (.int .i64 ((rd_T28 l0 x79_3).f3))).setCell ⟨gb118, 4, none⟩ (.bool ((rd_T28 l0 x79_3).f4))) = World.drewN ((((((w63).setCell ⟨gb118, 0, none⟩ (.int .i64 ((rd_T28 l0 x79_3).f0))).setCell ⟨gb118, 1, none⟩ (.int .i64 ((rd_T28 l0 x79_3).f1))).setCell ⟨gb118, 2, none⟩ (.int .i64 ((rd_T28 l0 x79_3).f2))).setCell ⟨gb118, 3, none⟩ (.int .i64 ((rd_T28 l0 x79_3).f3))).setCell ⟨gb118, 4, none⟩ (.bool ((rd_T28 l0 x79_3).f4))) n_ from by simp only [setCell_dn])).trans ((World.cell?_drewN ((((((w63).setCell ⟨gb118, 0, none⟩ (.int .i64 ((rd_T28 l0 x79_3).f0))).setCell ⟨gb118, 1, none⟩ (.int .i64 ((rd_T28 l0 x79_3).f1))).setCell ⟨gb118, 2, none⟩ (.int .i64 ((rd_T28 l0 x79_3).f2))).setCell ⟨gb118, 3, none⟩ (.int .i64 ((rd_T28 l0 x79_3).f3))).setCell ⟨gb118, 4, none⟩ (.bool ((rd_T28 l0 x79_3).f4))) n_ _).trans hx119_0)))); clear hn119_0; clear hn119_1; clear hn119_2; clear hn119_3; clear hn119_4; replace p119 := eq_true p119; replace q119 := eq_true q119) | ((with_reducible refine gate_builtin (b := .append) (xs := #[.tmp 89, .tmp 91]) rfl ?_); at_builtin; refine Kd.R_append k28 (w0 := w) w.heap.size rfl (.tmp 89) (.tmp 91) 23 28 (.agg #[(.int .i64 0), (.int .i64 0), (.int .i64 0), (.int .i64 0), (.bool false)]) 40 rfl Try.underlying23 info28 rfl (by decide) (by omega) u8 x8_3 (⟨(rd_T28 l0 x79_3).f0, (rd_T28 l0 x79_3).f1, (rd_T28 l0 x79_3).f2, (rd_T28 l0 x79_3).f3, (rd_T28 l0 x79_3).f4⟩ : S28) [.int .i64 ((rd_T28 l0 x79_3).f0), .int .i64 ((rd_T28 l0 x79_3).f1), .int .i64 ((rd_T28 l0 x79_3).f2), .int .i64 ((rd_T28 l0 x79_3).f3), .bool ((rd_T28 l0 x79_3).f4)] (fun k_ => k_ ≠ gb118) (fun _ => False) rfl (by first | (go_simp; done) | (go_simp; rfl)) ?aP (fun _ hk => hk.elim) ?aF ?aO ?aB ?aS ?aL ?_; (case aP => exact k28_mkM _ _ _ (⟨(rd_T28 l0 x79_3).f0, (rd_T28 l0 x79_3).f1, (rd_T28 l0 x79_3).f2, (rd_T28 l0 x79_3).f3, (rd_T28 l0 x79_3).f4⟩ : S28)); (case aB => exact (by repeat (first | (with_reducible first | exact HB.out | apply below_alloc | apply pw_below_drewN | apply below_drew1 | refine below_set ?_ GE118.out) | exact HB.out))); (case aF => exact (fun k_ hk => Kd.freshB (g := gb118) (o := .cells #[.int .i64 ((rd_T28 l0 x79_3).f0), .int .i64 ((rd_T28 l0 x79_3).f1), .int .i64 ((rd_T28 l0 x79_3).f2), .int .i64 ((rd_T28 l0 x79_3).f3), .bool ((rd_T28 l0 x79_3).f4)] 28 (0, 0)) (by (with_reducible repeat (first | refine blk_drewN ?_ _ | refine blk_drew ?_ | refine blk_alloc ?_ _)); refine blk_put (cs := #[.int .i64 ((rd_T28 l0 x79_3).f0), .int .i64 ((rd_T28 l0 x79_3).f1), .int .i64 ((rd_T28 l0 x79_3).f2), .int .i64 ((rd_T28 l0 x79_3).f3), .bool false]) ?_ 4 _ rfl; (with_reducible repeat (first | refine blk_drewN ?_ _ | refine blk_drew ?_ | refine blk_alloc ?_ _)); refine blk_put (cs := #[.int .i64 ((rd_T28 l0 x79_3).f0), .int .i64 ((rd_T28 l0 x79_3).f1), .int .i64 ((rd_T28 l0 x79_3).f2), .int .i64 0, .bool false]) ?_ 3 _ rfl; (with_reducible repeat (first | refine blk_drewN ?_ _ | refine blk_drew ?_ | refine blk_alloc ?_ _)); refine blk_put (cs := #[.int .i64 ((rd_T28 l0 x79_3).f0), .int .i64 ((rd_T28 l0 x79_3).f1), .int .i64 0, .int .i64 0, .bool false]) ?_ 2 _ rfl; (with_reducible repeat (first | refine blk_drewN ?_ _ | refine blk_drew ?_ | refine blk_alloc ?_ _)); refine blk_put (cs := #[.int .i64 ((rd_T28 l0 x79_3).f0), .int .i64 0, .int .i64 0, .int .i64 0, .bool false]) ?_ 1 _ rfl; (with_reducible repeat (first | refine blk_drewN ?_ _ | refine blk_drew ?_ | refine blk_alloc ?_ _)); refine blk_put (cs := #[.int .i64 0, .int .i64 0, .int .i64 0, .int .i64 0, .bool false]) ?_ 0 _ rfl; (with_reducible repeat (first | refine blk_drewN ?_ _ | refine blk_drew ?_ | refine blk_alloc ?_ _)); exact BK118.out) k_ hk)); (case aO => exact (by (with_reducible repeat (first | apply Kd.R_alloc | apply Kd.R_drewN | apply Kd.R_drew)); exact Kd.R_mono (Kd.R_far (p := ⟨gb118, 4, none⟩) (Kd.R_far (p := ⟨gb118, 3, none⟩) (Kd.R_far (p := ⟨gb118, 2, none⟩) (Kd.R_far (p := ⟨gb118, 1, none⟩) (Kd.R_far (p := ⟨gb118, 0, none⟩) (Kd.R_mono HO_8.out (fun k_ hk => (⟨hk, hk.2⟩ : _ ∧ k_ ≠ gb118))) (fun _ hk => hk.2) (.int .i64 ((rd_T28 l0 x79_3).f0))) (fun _ hk => hk.2) (.int .i64 ((rd_T28 l0 x79_3).f1))) (fun _ hk => hk.2) (.int .i64 ((rd_T28 l0 x79_3).f2))) (fun _ hk => hk.2) (.int .i64 ((rd_T28 l0 x79_3).f3))) (fun _ hk => hk.2) (.bool ((rd_T28 l0 x79_3).f4))) (fun _ hk => hk.1.2))); (case aS => exact (below_size (by repeat (first | (with_reducible first | exact HB.out | apply below_alloc | apply pw_below_drewN | apply below_drew1 | refine below_set ?_ GE118.out) | exact HB.out)))); (case aL => have := LMc62.out; omega); intro v121 w66 ho hb hg hat; rw [← Ny120.out] at ho; have n0_ := Aside0.mk (Kd.R_over' (by (with_reducible repeat (first | apply Kd.R_alloc | apply Kd.R_drewN | apply Kd.R_drew)); exact (Kd.R_mono (Kd.R_far (p := ⟨gb118, 4, none⟩) (Kd.R_far (p := ⟨gb118, 3, none⟩) (Kd.R_far (p := ⟨gb118, 2, none⟩) (Kd.R_far (p := ⟨gb118, 1, none⟩) (Kd.R_far (p := ⟨gb118, 0, none⟩) (Kd.R_types HO_3.out BK118.out (by decide)) (fun _ hk => hk.2) (.int .i64 ((rd_T28 l0 x79_3).f0))) (fun _ hk => hk.2) (.int .i64 ((rd_T28 l0 x79_3).f1))) (fun _ hk => hk.2) (.int .i64 ((rd_T28 l0 x79_3).f2))) (fun _ hk => hk.2) (.int .i64 ((rd_T28 l0 x79_3).f3))) (fun _ hk => hk.2) (.bool ((rd_T28 l0 x79_3).f4))) (fun _ h_ => h_.1))) (Kd.R_typed (by (with_reducible repeat (first | apply Kd.R_alloc | apply Kd.R_drewN | apply Kd.R_drew)); exact (Kd.R_mono (Kd.R_far (p := ⟨gb118, 4, none⟩) (Kd.R_far (p := ⟨gb118, 3, none⟩) (Kd.R_far (p := ⟨gb118, 2, none⟩) (Kd.R_far (p := ⟨gb118, 1, none⟩) (Kd.R_far (p := ⟨gb118, 0, none⟩) (Kd.R_mono HO_8.out (fun k_ hk => (⟨hk, hk.2⟩ : _ ∧ k_ ≠ gb118))) (fun _ hk => hk.2) (.int .i64 ((rd_T28 l0 x79_3).f0))) (fun _ hk => hk.2) (.int .i64 ((rd_T28 l0 x79_3).f1))) (fun _ hk => hk.2) (.int .i64 ((rd_T28 l0 x79_3).f2))) (fun _ hk => hk.2) (.int .i64 ((rd_T28 l0 x79_3).f3))) (fun _ hk => hk.2) (.bool ((rd_T28 l0 x79_3).f4))) (fun _ h_ => h_.1)))) (by decide) hg); have n1_ := Aside0.mk (blk_grown (g := gb118) (o := .cells #[.int .i64 ((rd_T28 l0 x79_3).f0), .int .i64 ((rd_T28 l0 x79_3).f1), .int .i64 ((rd_T28 l0 x79_3).f2), .int .i64 ((rd_T28 l0 x79_3).f3), .bool ((rd_T28 l0 x79_3).f4)] 28 (0, 0)) (by (with_reducible repeat (first | refine blk_drewN ?_ _ | refine blk_drew ?_ | refine blk_alloc ?_ _)); refine blk_put (cs := #[.int .i64 ((rd_T28 l0 x79_3).f0), .int .i64 ((rd_T28 l0 x79_3).f1), .int .i64 ((rd_T28 l0 x79_3).f2), .int .i64 ((rd_T28 l0 x79_3).f3), .bool false]) ?_ 4 _ rfl; (with_reducible repeat (first | refine blk_drewN ?_ _ | refine blk_drew ?_ | refine blk_alloc ?_ _)); refine blk_put (cs := #[.int .i64 ((rd_T28 l0 x79_3).f0), .int .i64 ((rd_T28 l0 x79_3).f1), .int .i64 ((rd_T28 l0 x79_3).f2), .int .i64 0, .bool false]) ?_ 3 _ rfl; (with_reducible repeat (first | refine blk_drewN ?_ _ | refine blk_drew ?_ | refine blk_alloc ?_ _)); refine blk_put (cs := #[.int .i64 ((rd_T28 l0 x79_3).f0), .int .i64 ((rd_T28 l0 x79_3).f1), .int .i64 0, .int .i64 0, .bool false]) ?_ 2 _ rfl; (with_reducible repeat (first | refine blk_drewN ?_ _ | refine blk_drew ?_ | refine blk_alloc ?_ _)); refine blk_put (cs := #[.int .i64 ((rd_T28 l0 x79_3).f0), .int .i64 0, .int .i64 0, .int .i64 0, .bool false]) ?_ 1 _ rfl; (with_reducible repeat (first | refine blk_drewN ?_ _ | refine blk_drew ?_ | refine blk_alloc ?_ _)); refine blk_put (cs := #[.int .i64 0, .int .i64 0, .int .i64 0, .int .i64 0, .bool false]) ?_ 0 _ rfl; (with_reducible repeat (first | refine blk_drewN ?_ _ | refine blk_drew ?_ | refine blk_alloc ?_ _)); exact BK118.out) hg (Kd.R_away HO_8.out (fun _ hk => hk.2))); have n2_ := Aside0.mk (hb); have n3_ := Aside0.mk (ho); clear HO_3; clear BK118; clear HB; clear HO_8; have HO_3 := n0_; have BK118 := n1_; have HB := n2_; have HO122 := n3_; clear n0_ n1_ n2_ n3_; clear ho hb hg hat)))
                go_roundg k3
                case measure => have := HK1.out; have := HK2.out; have := HK3.out; omega
                case rel => exact ⟨(y120), (wrap64 (x79_3 + 1)), (by first | rfl | (simp; done) | (simp [*]; done)), H', ⟨by have := HK1.out; have := HK2.out; have := HK3.out; omega⟩, ⟨by (with_reducible repeat (first | apply Kd.R_alloc | apply Kd.R_drewN | apply Kd.R_drew)); exact HO_3.out⟩, ⟨by (with_reducible repeat (first | apply Kd.R_alloc | apply Kd.R_drewN | apply Kd.R_drew)); exact Kd.R_mono HO122.out (fun _ hk => trivial)⟩, ⟨by repeat (first | (with_reducible first | exact HB.out | apply below_alloc | apply pw_below_drewN | apply below_drew1 | refine below_set ?_ GE118.out) | exact HB.out)⟩⟩
               ·rw [if_neg c62] at H
                exact absurd H (by simp)
              ·rw [if_neg c61] at H
               have c61b0 : ((rd x3_2 x79_3) == 1) = false := beq_eq_false_iff_ne.mpr c61
               have c61b1 : ((rd x3_2 x79_3) != 1) = true := bne_iff_ne.mpr c61
               have H' := Aside0.mk H
               clear H
               have p117 : 0 ≤ (x79_3 : Int) := of_decide_eq_true (by first | (with_reducible assumption) | assumption)
               have q117 : x79_3 < (l0.length : Int) := of_decide_eq_true (by first | (with_reducible assumption) | assumption)
               obtain ⟨ad117, e117, hx117_0, hx117_1, hx117_2, hx117_3, hx117_4⟩ := at_T28 HR0.out x79_3 p117 q117
               cases e117
               replace hx117_0 := (HB.out.cell (World.block_lt_of_cell? w _ hx117_0)).trans hx117_0
               replace hx117_1 := (HB.out.cell (World.block_lt_of_cell? w _ hx117_1)).trans hx117_1
               replace hx117_2 := (HB.out.cell (World.block_lt_of_cell? w _ hx117_2)).trans hx117_2
               replace hx117_3 := (HB.out.cell (World.block_lt_of_cell? w _ hx117_3)).trans hx117_3
               replace hx117_4 := (HB.out.cell (World.block_lt_of_cell? w _ hx117_4)).trans hx117_4
               replace p117 := eq_true p117
               replace q117 := eq_true q117
               go_wp2_with (first | ((with_reducible refine gate_dst (N := 10) rfl ?_); refine box_event ?hg (N := 10) ?hd (cs := #[.int .i64 0, .int .i64 0, .int .i64 0, .int .i64 0, .bool false]) (t := 28) ?hr ?_; (case hd => rfl); (case hg => rfl); (case hr => first | (go_simp; done) | (go_simp; rfl)); intro gb118 hg w67 hbox hb; have n0_ := Aside0.mk (Kd.R_below (by (with_reducible repeat (first | apply Kd.R_alloc | apply Kd.R_drewN | apply Kd.R_drew)); exact HO_3.out) hb); have n1_ := Aside0.mk (Kd.R_below (Kd.R_elderB (by (with_reducible repeat (first | apply Kd.R_alloc | apply Kd.R_drewN | apply Kd.R_drew)); exact HO_8.out) gb118 (Nat.le_of_eq hg.symm)) hb); have n2_ := Aside0.mk (below_step (by repeat (first | (with_reducible first | exact HB.out | apply below_alloc | apply pw_below_drewN | apply below_drew1) | exact HB.out)) hb); have n3_ := Aside0.mk (hbox); have n4_ := Aside0.mk ((by rw [hg]; exact (below_size (by repeat (first | (with_reducible first | exact HB.out | apply below_alloc | apply pw_below_drewN | apply below_drew1) | exact HB.out))) : w.heap.size ≤ gb118)); have n5_ := Aside0.mk ((by rw [hg]; exact (below_size (by repeat (first | (with_reducible first | exact HB.out | apply below_alloc | apply pw_below_drewN | apply below_drew1) | exact HB.out))) : w.heap.size ≤ gb118)); clear HO_3; clear HO_8; clear HB; have HO_3 := n0_; have HO_8 := n1_; have HB := n2_; have BK118 := n3_; have GW118 := n4_; have GE118 := n5_; clear n0_ n1_ n2_ n3_ n4_ n5_; clear hb hbox hg; have hcz68_0 : w67.cell? ⟨gb118, 0, none⟩ = some (.int .i64 0) := (blk_cell BK118.out 0).trans rfl; have hcz68_1 : w67.cell? ⟨gb118, 1, none⟩ = some (.int .i64 0) := (blk_cell BK118.out 1).trans rfl; have hcz68_2 : w67.cell? ⟨gb118, 2, none⟩ = some (.int .i64 0) := (blk_cell BK118.out 2).trans rfl; have hcz68_3 : w67.cell? ⟨gb118, 3, none⟩ = some (.int .i64 0) := (blk_cell BK118.out 3).trans rfl; have hcz68_4 : w67.cell? ⟨gb118, 4, none⟩ = some (.bool false) := (blk_cell BK118.out 4).trans rfl; have hfz68_0 := blk_frozen BK118.out 0; have hfz68_1 := blk_frozen BK118.out 1; have hfz68_2 := blk_frozen BK118.out 2; have hfz68_3 := blk_frozen BK118.out 3; have hfz68_4 := blk_frozen BK118.out 4; obtain ⟨Ao69, co69, eo69⟩ := Kd.R_slice HO_3.out; subst eo69; have p119 : 0 ≤ (x79_3 : Int) := of_decide_eq_true (by first | (with_reducible assumption) | assumption); have q119 : x79_3 < (x3_2.length : Int) := of_decide_eq_true (by first | (with_reducible assumption) | assumption); obtain ⟨ad119, e119, hx119_0⟩ := Kd.at_int (Kd.R_reads' HO_3.out).2.2 x79_3 p119 q119; cases e119; have hn119_0 : ad119.block ≠ gb118 := Kd.own_blk (Kd.R_ne HO_3.out BK118.out (by decide)); have hn119_1 : ad119.block ≠ gb118 := Kd.own_blk (Kd.R_ne HO_3.out BK118.out (by decide)); have hn119_2 : ad119.block ≠ gb118 := Kd.own_blk (Kd.R_ne HO_3.out BK118.out (by decide)); have hn119_3 : ad119.block ≠ gb118 := Kd.own_blk (Kd.R_ne HO_3.out BK118.out (by decide)); have hn119_4 : ad119.block ≠ gb118 := Kd.own_blk (Kd.R_ne HO_3.out BK118.out (by decide)); replace hx119_0 := (cell_far (p := ⟨gb118, 0, none⟩) (by first | (rw [add_block]; exact hn119_0) | (show (Addr.add _ _).block ≠ _; rw [add_block]; exact hn119_0) | exact hn119_0) (.int .i64 ((rd_T28 l0 x79_3).f0))).trans hx119_0; replace hx119_0 := (cell_far (p := ⟨gb118, 1, none⟩) (by first | (rw [add_block]; exact hn119_1) | (show (Addr.add _ _).block ≠ _; rw [add_block]; exact hn119_1) | exact hn119_1) (.int .i64 ((rd_T28 l0 x79_3).f1))).trans hx119_0; replace hx119_0 := (cell_far (p := ⟨gb118, 2, none⟩) (by first | (rw [add_block]; exact hn119_2) | (show (Addr.add _ _).block ≠ _; rw [add_block]; exact hn119_2) | exact hn119_2) (.int .i64 ((rd_T28 l0 x79_3).f2))).trans hx119_0; replace hx119_0 := (cell_far (p := ⟨gb118, 3, none⟩) (by first | (rw [add_block]; exact hn119_3) | (show (Addr.add _ _).block ≠ _; rw [add_block]; exact hn119_3) | exact hn119_3) (.int .i64 ((rd_T28 l0 x79_3).f3))).trans hx119_0; replace hx119_0 := (cell_far (p := ⟨gb118, 4, none⟩) (by first | (rw [add_block]; exact hn119_4) | (show (Addr.add _ _).block ≠ _; rw [add_block]; exact hn119_4) | exact hn119_4) (.bool ((rd_T28 l0 x79_3).f4))).trans hx119_0; (try have hy119_0 := fun (n_ : Nat) => (show (((((((w67.drewN n_).setCell ⟨gb118, 0, none⟩ (.int .i64 ((rd_T28 l0 x79_3).f0))).setCell ⟨gb118, 1, none⟩ (.int .i64 ((rd_T28 l0 x79_3).f1))).setCell ⟨gb118, 2, none⟩ (.int .i64 ((rd_T28 l0 x79_3).f2))).setCell ⟨gb118, 3, none⟩ (.int .i64 ((rd_T28 l0 x79_3).f3))).setCell ⟨gb118, 4, none⟩ (.bool ((rd_T28 l0 x79_3).f4)))).cell? _ = some _ from ((congrArg (fun W_ : World => W_.cell? _) (show ((((((w67.drewN n_).setCell ⟨gb118, 0, none⟩ (.int .i64 ((rd_T28 l0 x79_3).f0))).setCell ⟨gb118, 1, none⟩ (.int .i64 ((rd_T28 l0 x79_3).f1))).setCell ⟨gb118, 2, none⟩ (.int .i64 ((rd_T28 l0 x79_3).f2))).setCell ⟨gb118, 3, none⟩ (.int .i64 ((rd_T28 l0 x79_3).f3))).setCell ⟨gb118, 4, none⟩ (.bool ((rd_T28 l0 x79_3).f4))) = World.drewN ((((((w67).setCell ⟨gb118, 0, none⟩ (.int .i64 ((rd_T28 l0 x79_3).f0))).setCell ⟨gb118, 1, none⟩ (.int .i64 ((rd_T28 l0 x79_3).f1))).setCell ⟨gb118, 2, none⟩ (.int .i64 ((rd_T28 l0 x79_3).f2))).setCell ⟨gb118, 3, none⟩ (.int .i64 ((rd_T28 l0 x79_3).f3))).setCell ⟨gb118, 4, none⟩ (.bool ((rd_T28 l0 x79_3).f4))) n_ from by simp only [setCell_dn])).trans ((World.cell?_drewN ((((((w67).setCell ⟨gb118, 0, none⟩ (.int .i64 ((rd_T28 l0 x79_3).f0))).setCell ⟨gb118, 1, none⟩ (.int .i64 ((rd_T28 l0 x79_3).f1))).setCell ⟨gb118, 2, none⟩ (.int .i64 ((rd_T28 l0 x79_3).f2))).setCell ⟨gb118, 3, none⟩ (.int .i64 ((rd_T28 l0 x79_3).f3))).setCell ⟨gb118, 4, none⟩ (.bool ((rd_T28 l0 x79_3).f4))) n_ _).trans hx119_0)))); clear hn119_0; clear hn119_1; clear hn119_2; clear hn119_3; clear hn119_4; replace p119 := eq_true p119; replace q119 := eq_true q119))
               repeat (go_quiet (first | ((with_reducible refine gate_dst (N := 10) rfl ?_); refine box_event ?hg (N := 10) ?hd (cs := #[.int .i64 0, .int .i64 0, .int .i64 0, .int .i64 0, .bool false]) (t := 28) ?hr ?_; (case hd => rfl); (case hg => rfl); (case hr => first | (go_simp; done) | (go_simp; rfl)); intro gb118 hg w67 hbox hb; have n0_ := Aside0.mk (Kd.R_below (by (with_reducible repeat (first | apply Kd.R_alloc | apply Kd.R_drewN | apply Kd.R_drew)); exact HO_3.out) hb); have n1_ := Aside0.mk (Kd.R_below (Kd.R_elderB (by (with_reducible repeat (first | apply Kd.R_alloc | apply Kd.R_drewN | apply Kd.R_drew)); exact HO_8.out) gb118 (Nat.le_of_eq hg.symm)) hb); have n2_ := Aside0.mk (below_step (by repeat (first | (with_reducible first | exact HB.out | apply below_alloc | apply pw_below_drewN | apply below_drew1) | exact HB.out)) hb); have n3_ := Aside0.mk (hbox); have n4_ := Aside0.mk ((by rw [hg]; exact (below_size (by repeat (first | (with_reducible first | exact HB.out | apply below_alloc | apply pw_below_drewN | apply below_drew1) | exact HB.out))) : w.heap.size ≤ gb118)); have n5_ := Aside0.mk ((by rw [hg]; exact (below_size (by repeat (first | (with_reducible first | exact HB.out | apply below_alloc | apply pw_below_drewN | apply below_drew1) | exact HB.out))) : w.heap.size ≤ gb118)); clear HO_3; clear HO_8; clear HB; have HO_3 := n0_; have HO_8 := n1_; have HB := n2_; have BK118 := n3_; have GW118 := n4_; have GE118 := n5_; clear n0_ n1_ n2_ n3_ n4_ n5_; clear hb hbox hg; have hcz68_0 : w67.cell? ⟨gb118, 0, none⟩ = some (.int .i64 0) := (blk_cell BK118.out 0).trans rfl; have hcz68_1 : w67.cell? ⟨gb118, 1, none⟩ = some (.int .i64 0) := (blk_cell BK118.out 1).trans rfl; have hcz68_2 : w67.cell? ⟨gb118, 2, none⟩ = some (.int .i64 0) := (blk_cell BK118.out 2).trans rfl; have hcz68_3 : w67.cell? ⟨gb118, 3, none⟩ = some (.int .i64 0) := (blk_cell BK118.out 3).trans rfl; have hcz68_4 : w67.cell? ⟨gb118, 4, none⟩ = some (.bool false) := (blk_cell BK118.out 4).trans rfl; have hfz68_0 := blk_frozen BK118.out 0; have hfz68_1 := blk_frozen BK118.out 1; have hfz68_2 := blk_frozen BK118.out 2; have hfz68_3 := blk_frozen BK118.out 3; have hfz68_4 := blk_frozen BK118.out 4; obtain ⟨Ao69, co69, eo69⟩ := Kd.R_slice HO_3.out; subst eo69; have p119 : 0 ≤ (x79_3 : Int) := of_decide_eq_true (by first | (with_reducible assumption) | assumption); have q119 : x79_3 < (x3_2.length : Int) := of_decide_eq_true (by first | (with_reducible assumption) | assumption); obtain ⟨ad119, e119, hx119_0⟩ := Kd.at_int (Kd.R_reads' HO_3.out).2.2 x79_3 p119 q119; cases e119; have hn119_0 : ad119.block ≠ gb118 := Kd.own_blk (Kd.R_ne HO_3.out BK118.out (by decide)); have hn119_1 : ad119.block ≠ gb118 := Kd.own_blk (Kd.R_ne HO_3.out BK118.out (by decide)); have hn119_2 : ad119.block ≠ gb118 := Kd.own_blk (Kd.R_ne HO_3.out BK118.out (by decide)); have hn119_3 : ad119.block ≠ gb118 := Kd.own_blk (Kd.R_ne HO_3.out BK118.out (by decide)); have hn119_4 : ad119.block ≠ gb118 := Kd.own_blk (Kd.R_ne HO_3.out BK118.out (by decide)); replace hx119_0 := (cell_far (p := ⟨gb118, 0, none⟩) (by first | (rw [add_block]; exact hn119_0) | (show (Addr.add _ _).block ≠ _; rw [add_block]; exact hn119_0) | exact hn119_0) (.int .i64 ((rd_T28 l0 x79_3).f0))).trans hx119_0; replace hx119_0 := (cell_far (p := ⟨gb118, 1, none⟩) (by first | (rw [add_block]; exact hn119_1) | (show (Addr.add _ _).block ≠ _; rw [add_block]; exact hn119_1) | exact hn119_1) (.int .i64 ((rd_T28 l0 x79_3).f1))).trans hx119_0; replace hx119_0 := (cell_far (p := ⟨gb118, 2, none⟩) (by first | (rw [add_block]; exact hn119_2) | (show (Addr.add _ _).block ≠ _; rw [add_block]; exact hn119_2) | exact hn119_2) (.int .i64 ((rd_T28 l0 x79_3).f2))).trans hx119_0; replace hx119_0 := (cell_far (p := ⟨gb118, 3, none⟩) (by first | (rw [add_block]; exact hn119_3) | (show (Addr.add _ _).block ≠ _; rw [add_block]; exact hn119_3) | exact hn119_3) (.int .i64 ((rd_T28 l0 x79_3).f3))).trans hx119_0; replace hx119_0 := (cell_far (p := ⟨gb118, 4, none⟩) (by first | (rw [add_block]; exact hn119_4) | (show (Addr.add _ _).block ≠ _; rw [add_block]; exact hn119_4) | exact hn119_4) (.bool ((rd_T28 l0 x79_3).f4))).trans hx119_0; (try have hy119_0 := fun (n_ : Nat) => (show (((((((w67.drewN n_).setCell ⟨gb118, 0, none⟩ (.int .i64 ((rd_T28 l0 x79_3).f0))).setCell ⟨gb118, 1, none⟩ (.int .i64 ((rd_T28 l0 x79_3).f1))).setCell ⟨gb118, 2, none⟩ (.int .i64 ((rd_T28 l0 x79_3).f2))).setCell ⟨gb118, 3, none⟩ (.int .i64 ((rd_T28 l0 x79_3).f3))).setCell ⟨gb118, 4, none⟩ (.bool ((rd_T28 l0 x79_3).f4)))).cell? _ = some _ from ((congrArg (fun W_ : World => W_.cell? _) (show ((((((w67.drewN n_).setCell ⟨gb118, 0, none⟩ (.int .i64 ((rd_T28 l0 x79_3).f0))).setCell ⟨gb118, 1, none⟩ (.int .i64 ((rd_T28 l0 x79_3).f1))).setCell ⟨gb118, 2, none⟩ (.int .i64 ((rd_T28 l0 x79_3).f2))).setCell ⟨gb118, 3, none⟩ (.int .i64 ((rd_T28 l0 x79_3).f3))).setCell ⟨gb118, 4, none⟩ (.bool ((rd_T28 l0 x79_3).f4))) = World.drewN ((((((w67).setCell ⟨gb118, 0, none⟩ (.int .i64 ((rd_T28 l0 x79_3).f0))).setCell ⟨gb118, 1, none⟩ (.int .i64 ((rd_T28 l0 x79_3).f1))).setCell ⟨gb118, 2, none⟩ (.int .i64 ((rd_T28 l0 x79_3).f2))).setCell ⟨gb118, 3, none⟩ (.int .i64 ((rd_T28 l0 x79_3).f3))).setCell ⟨gb118, 4, none⟩ (.bool ((rd_T28 l0 x79_3).f4))) n_ from by simp only [setCell_dn])).trans ((World.cell?_drewN ((((((w67).setCell ⟨gb118, 0, none⟩ (.int .i64 ((rd_T28 l0 x79_3).f0))).setCell ⟨gb118, 1, none⟩ (.int .i64 ((rd_T28 l0 x79_3).f1))).setCell ⟨gb118, 2, none⟩ (.int .i64 ((rd_T28 l0 x79_3).f2))).setCell ⟨gb118, 3, none⟩ (.int .i64 ((rd_T28 l0 x79_3).f3))).setCell ⟨gb118, 4, none⟩ (.bool ((rd_T28 l0 x79_3).f4))) n_ _).trans hx119_0)))); clear hn119_0; clear hn119_1; clear hn119_2; clear hn119_3; clear hn119_4; replace p119 := eq_true p119; replace q119 := eq_true q119)); try go_wp2_with (first | ((with_reducible refine gate_dst (N := 10) rfl ?_); refine box_event ?hg (N := 10) ?hd (cs := #[.int .i64 0, .int .i64 0, .int .i64 0, .int .i64 0, .bool false]) (t := 28) ?hr ?_; (case hd => rfl); (case hg => rfl); (case hr => first | (go_simp; done) | (go_simp; rfl)); intro gb118 hg w67 hbox hb; have n0_ := Aside0.mk (Kd.R_below (by (with_reducible repeat (first | apply Kd.R_alloc | apply Kd.R_drewN | apply Kd.R_drew)); exact HO_3.out) hb); have n1_ := Aside0.mk (Kd.R_below (Kd.R_elderB (by (with_reducible repeat (first | apply Kd.R_alloc | apply Kd.R_drewN | apply Kd.R_drew)); exact HO_8.out) gb118 (Nat.le_of_eq hg.symm)) hb); have n2_ := Aside0.mk (below_step (by repeat (first | (with_reducible first | exact HB.out | apply below_alloc | apply pw_below_drewN | apply below_drew1) | exact HB.out)) hb); have n3_ := Aside0.mk (hbox); have n4_ := Aside0.mk ((by rw [hg]; exact (below_size (by repeat (first | (with_reducible first | exact HB.out | apply below_alloc | apply pw_below_drewN | apply below_drew1) | exact HB.out))) : w.heap.size ≤ gb118)); have n5_ := Aside0.mk ((by rw [hg]; exact (below_size (by repeat (first | (with_reducible first | exact HB.out | apply below_alloc | apply pw_below_drewN | apply below_drew1) | exact HB.out))) : w.heap.size ≤ gb118)); clear HO_3; clear HO_8; clear HB; have HO_3 := n0_; have HO_8 := n1_; have HB := n2_; have BK118 := n3_; have GW118 := n4_; have GE118 := n5_; clear n0_ n1_ n2_ n3_ n4_ n5_; clear hb hbox hg; have hcz68_0 : w67.cell? ⟨gb118, 0, none⟩ = some (.int .i64 0) := (blk_cell BK118.out 0).trans rfl; have hcz68_1 : w67.cell? ⟨gb118, 1, none⟩ = some (.int .i64 0) := (blk_cell BK118.out 1).trans rfl; have hcz68_2 : w67.cell? ⟨gb118, 2, none⟩ = some (.int .i64 0) := (blk_cell BK118.out 2).trans rfl; have hcz68_3 : w67.cell? ⟨gb118, 3, none⟩ = some (.int .i64 0) := (blk_cell BK118.out 3).trans rfl; have hcz68_4 : w67.cell? ⟨gb118, 4, none⟩ = some (.bool false) := (blk_cell BK118.out 4).trans rfl; have hfz68_0 := blk_frozen BK118.out 0; have hfz68_1 := blk_frozen BK118.out 1; have hfz68_2 := blk_frozen BK118.out 2; have hfz68_3 := blk_frozen BK118.out 3; have hfz68_4 := blk_frozen BK118.out 4; obtain ⟨Ao69, co69, eo69⟩ := Kd.R_slice HO_3.out; subst eo69; have p119 : 0 ≤ (x79_3 : Int) := of_decide_eq_true (by first | (with_reducible assumption) | assumption); have q119 : x79_3 < (x3_2.length : Int) := of_decide_eq_true (by first | (with_reducible assumption) | assumption); obtain ⟨ad119, e119, hx119_0⟩ := Kd.at_int (Kd.R_reads' HO_3.out).2.2 x79_3 p119 q119; cases e119; have hn119_0 : ad119.block ≠ gb118 := Kd.own_blk (Kd.R_ne HO_3.out BK118.out (by decide)); have hn119_1 : ad119.block ≠ gb118 := Kd.own_blk (Kd.R_ne HO_3.out BK118.out (by decide)); have hn119_2 : ad119.block ≠ gb118 := Kd.own_blk (Kd.R_ne HO_3.out BK118.out (by decide)); have hn119_3 : ad119.block ≠ gb118 := Kd.own_blk (Kd.R_ne HO_3.out BK118.out (by decide)); have hn119_4 : ad119.block ≠ gb118 := Kd.own_blk (Kd.R_ne HO_3.out BK118.out (by decide)); replace hx119_0 := (cell_far (p := ⟨gb118, 0, none⟩) (by first | (rw [add_block]; exact hn119_0) | (show (Addr.add _ _).block ≠ _; rw [add_block]; exact hn119_0) | exact hn119_0) (.int .i64 ((rd_T28 l0 x79_3).f0))).trans hx119_0; replace hx119_0 := (cell_far (p := ⟨gb118, 1, none⟩) (by first | (rw [add_block]; exact hn119_1) | (show (Addr.add _ _).block ≠ _; rw [add_block]; exact hn119_1) | exact hn119_1) (.int .i64 ((rd_T28 l0 x79_3).f1))).trans hx119_0; replace hx119_0 := (cell_far (p := ⟨gb118, 2, none⟩) (by first | (rw [add_block]; exact hn119_2) | (show (Addr.add _ _).block ≠ _; rw [add_block]; exact hn119_2) | exact hn119_2) (.int .i64 ((rd_T28 l0 x79_3).f2))).trans hx119_0; replace hx119_0 := (cell_far (p := ⟨gb118, 3, none⟩) (by first | (rw [add_block]; exact hn119_3) | (show (Addr.add _ _).block ≠ _; rw [add_block]; exact hn119_3) | exact hn119_3) (.int .i64 ((rd_T28 l0 x79_3).f3))).trans hx119_0; replace hx119_0 := (cell_far (p := ⟨gb118, 4, none⟩) (by first | (rw [add_block]; exact hn119_4) | (show (Addr.add _ _).block ≠ _; rw [add_block]; exact hn119_4) | exact hn119_4) (.bool ((rd_T28 l0 x79_3).f4))).trans hx119_0; (try have hy119_0 := fun (n_ : Nat) => (show (((((((w67.drewN n_).setCell ⟨gb118, 0, none⟩ (.int .i64 ((rd_T28 l0 x79_3).f0))).setCell ⟨gb118, 1, none⟩ (.int .i64 ((rd_T28 l0 x79_3).f1))).setCell ⟨gb118, 2, none⟩ (.int .i64 ((rd_T28 l0 x79_3).f2))).setCell ⟨gb118, 3, none⟩ (.int .i64 ((rd_T28 l0 x79_3).f3))).setCell ⟨gb118, 4, none⟩ (.bool ((rd_T28 l0 x79_3).f4)))).cell? _ = some _ from ((congrArg (fun W_ : World => W_.cell? _) (show ((((((w67.drewN n_).setCell ⟨gb118, 0, none⟩ (.int .i64 ((rd_T28 l0 x79_3).f0))).setCell ⟨gb118, 1, none⟩ (.int .i64 ((rd_T28 l0 x79_3).f1))).setCell ⟨gb118, 2, none⟩ (.int .i64 ((rd_T28 l0 x79_3).f2))).setCell ⟨gb118, 3, none⟩ (.int .i64 ((rd_T28 l0 x79_3).f3))).setCell ⟨gb118, 4, none⟩ (.bool ((rd_T28 l0 x79_3).f4))) = World.drewN ((((((w67).setCell ⟨gb118, 0, none⟩ (.int .i64 ((rd_T28 l0 x79_3).f0))).setCell ⟨gb118, 1, none⟩ (.int .i64 ((rd_T28 l0 x79_3).f1))).setCell ⟨gb118, 2, none⟩ (.int .i64 ((rd_T28 l0 x79_3).f2))).setCell ⟨gb118, 3, none⟩ (.int .i64 ((rd_T28 l0 x79_3).f3))).setCell ⟨gb118, 4, none⟩ (.bool ((rd_T28 l0 x79_3).f4))) n_ from by simp only [setCell_dn])).trans ((World.cell?_drewN ((((((w67).setCell ⟨gb118, 0, none⟩ (.int .i64 ((rd_T28 l0 x79_3).f0))).setCell ⟨gb118, 1, none⟩ (.int .i64 ((rd_T28 l0 x79_3).f1))).setCell ⟨gb118, 2, none⟩ (.int .i64 ((rd_T28 l0 x79_3).f2))).setCell ⟨gb118, 3, none⟩ (.int .i64 ((rd_T28 l0 x79_3).f3))).setCell ⟨gb118, 4, none⟩ (.bool ((rd_T28 l0 x79_3).f4))) n_ _).trans hx119_0)))); clear hn119_0; clear hn119_1; clear hn119_2; clear hn119_3; clear hn119_4; replace p119 := eq_true p119; replace q119 := eq_true q119)))
               go_roundg k3
               case measure => have := HK1.out; have := HK2.out; have := HK3.out; omega
               case rel => exact ⟨(x8_3), (wrap64 (x79_3 + 1)), (by first | rfl | (simp; done) | (simp [*]; done)), H', ⟨by have := HK1.out; have := HK2.out; have := HK3.out; omega⟩, ⟨by (with_reducible repeat (first | apply Kd.R_alloc | apply Kd.R_drewN | apply Kd.R_drew)); exact Kd.R_mono (Kd.R_far (p := ⟨gb118, 4, none⟩) (Kd.R_far (p := ⟨gb118, 3, none⟩) (Kd.R_far (p := ⟨gb118, 2, none⟩) (Kd.R_far (p := ⟨gb118, 1, none⟩) (Kd.R_far (p := ⟨gb118, 0, none⟩) (Kd.R_types HO_3.out BK118.out (by decide)) (fun _ hk => hk.2) (.int .i64 ((rd_T28 l0 x79_3).f0))) (fun _ hk => hk.2) (.int .i64 ((rd_T28 l0 x79_3).f1))) (fun _ hk => hk.2) (.int .i64 ((rd_T28 l0 x79_3).f2))) (fun _ hk => hk.2) (.int .i64 ((rd_T28 l0 x79_3).f3))) (fun _ hk => hk.2) (.bool ((rd_T28 l0 x79_3).f4))) (fun _ hk => trivial)⟩, ⟨by (with_reducible repeat (first | apply Kd.R_alloc | apply Kd.R_drewN | apply Kd.R_drew)); exact Kd.R_mono (Kd.R_far (p := ⟨gb118, 4, none⟩) (Kd.R_far (p := ⟨gb118, 3, none⟩) (Kd.R_far (p := ⟨gb118, 2, none⟩) (Kd.R_far (p := ⟨gb118, 1, none⟩) (Kd.R_far (p := ⟨gb118, 0, none⟩) (Kd.R_mono HO_8.out (fun k_ hk => (⟨hk, hk.2⟩ : _ ∧ k_ ≠ gb118))) (fun _ hk => hk.2) (.int .i64 ((rd_T28 l0 x79_3).f0))) (fun _ hk => hk.2) (.int .i64 ((rd_T28 l0 x79_3).f1))) (fun _ hk => hk.2) (.int .i64 ((rd_T28 l0 x79_3).f2))) (fun _ hk => hk.2) (.int .i64 ((rd_T28 l0 x79_3).f3))) (fun _ hk => hk.2) (.bool ((rd_T28 l0 x79_3).f4))) (fun _ hk => trivial)⟩, ⟨by repeat (first | (with_reducible first | exact HB.out | apply below_alloc | apply pw_below_drewN | apply below_drew1 | refine below_set ?_ GE118.out) | exact HB.out)⟩⟩
             ·rw [if_neg c60] at H
              exact absurd H (by simp)
            ·rw [if_neg c59] at H
             exact absurd H (by simp)
           ·rw [if_neg c58] at H
            exact absurd H (by simp)
          ·rw [if_neg c57] at H
           have c57b0 : decide (x79_3 < (l0.length : Int)) = false := decide_eq_false c57
           clear c57
           obtain rfl := Option.some.inj H
           go_wp2
           repeat (go_quiet (fail); try go_wp2)
           (try simp only [Exit.jump])
           go_ret
           exact ⟨_, by first | rfl | (simp [errW_none, errW_some] <;> rfl) | (simp [*, errW_none, errW_some] <;> rfl), by (with_reducible repeat (first | apply Kd.R_alloc | apply Kd.R_drewN | apply Kd.R_drew)); exact HO_8.out, by repeat (first | (with_reducible first | exact HB.out | apply below_alloc | apply pw_below_drewN | apply below_drew1) | exact HB.out)⟩
   ·intro hpass
    go_wp2_with (first | ((with_reducible refine gate_dst (N := 13) rfl ?_); refine Kd.R_make (Kd.int .i64) _ 3 rfl (N := 13) rfl 57 _ _ rfl (l0.length : Int) rfl rfl Try.underlying57 (.int .i64 0) 8 info3 rfl (by decide) (by omega) 0 (ok := fun _ => True) (okp := fun _ => True) rfl (fun _ hk => hk) trivial (of_decide_eq_true (by first | (with_reducible assumption) | assumption)) (Nat.le_trans (Nat.mul_le_mul_right _ (of_decide_eq_true (by first | (with_reducible assumption) | assumption) : (l0.length : Int).toNat ≤ 35184372088832)) (by omega)) (Below.refl _ _) (Nat.le_refl _) ?_; intro v106 w4 ho5 hb hg_ hnew_; clear hg_ hnew_; (first | rw [← Ny105.out] at ho5 | (simp only [Int.reduceToNat] at ho5; rw [← Ny105.out] at ho5)); have n0_ := Aside0.mk (Kd.R_lower ho5 (below_size (by repeat (first | (with_reducible first | exact HB.out | apply below_alloc | apply pw_below_drewN | apply below_drew1) | exact HB.out)))); have n1_ := Aside0.mk (below_step (by repeat (first | (with_reducible first | exact HB.out | apply below_alloc | apply pw_below_drewN | apply below_drew1) | exact HB.out)) hb); clear HB; have HO107 := n0_; have HB := n1_; clear n0_ n1_; clear hb ho5))
    repeat (go_quiet (first | ((with_reducible refine gate_dst (N := 13) rfl ?_); refine Kd.R_make (Kd.int .i64) _ 3 rfl (N := 13) rfl 57 _ _ rfl (l0.length : Int) rfl rfl Try.underlying57 (.int .i64 0) 8 info3 rfl (by decide) (by omega) 0 (ok := fun _ => True) (okp := fun _ => True) rfl (fun _ hk => hk) trivial (of_decide_eq_true (by first | (with_reducible assumption) | assumption)) (Nat.le_trans (Nat.mul_le_mul_right _ (of_decide_eq_true (by first | (with_reducible assumption) | assumption) : (l0.length : Int).toNat ≤ 35184372088832)) (by omega)) (Below.refl _ _) (Nat.le_refl _) ?_; intro v106 w4 ho5 hb hg_ hnew_; clear hg_ hnew_; (first | rw [← Ny105.out] at ho5 | (simp only [Int.reduceToNat] at ho5; rw [← Ny105.out] at ho5)); have n0_ := Aside0.mk (Kd.R_lower ho5 (below_size (by repeat (first | (with_reducible first | exact HB.out | apply below_alloc | apply pw_below_drewN | apply below_drew1) | exact HB.out)))); have n1_ := Aside0.mk (below_step (by repeat (first | (with_reducible first | exact HB.out | apply below_alloc | apply pw_below_drewN | apply below_drew1) | exact HB.out)) hb); clear HB; have HO107 := n0_; have HB := n1_; clear n0_ n1_; clear hb ho5)); try go_wp2_with (first | ((with_reducible refine gate_dst (N := 13) rfl ?_); refine Kd.R_make (Kd.int .i64) _ 3 rfl (N := 13) rfl 57 _ _ rfl (l0.length : Int) rfl rfl Try.underlying57 (.int .i64 0) 8 info3 rfl (by decide) (by omega) 0 (ok := fun _ => True) (okp := fun _ => True) rfl (fun _ hk => hk) trivial (of_decide_eq_true (by first | (with_reducible assumption) | assumption)) (Nat.le_trans (Nat.mul_le_mul_right _ (of_decide_eq_true (by first | (with_reducible assumption) | assumption) : (l0.length : Int).toNat ≤ 35184372088832)) (by omega)) (Below.refl _ _) (Nat.le_refl _) ?_; intro v106 w4 ho5 hb hg_ hnew_; clear hg_ hnew_; (first | rw [← Ny105.out] at ho5 | (simp only [Int.reduceToNat] at ho5; rw [← Ny105.out] at ho5)); have n0_ := Aside0.mk (Kd.R_lower ho5 (below_size (by repeat (first | (with_reducible first | exact HB.out | apply below_alloc | apply pw_below_drewN | apply below_drew1) | exact HB.out)))); have n1_ := Aside0.mk (below_step (by repeat (first | (with_reducible first | exact HB.out | apply below_alloc | apply pw_below_drewN | apply below_drew1) | exact HB.out)) hb); clear HB; have HO107 := n0_; have HB := n1_; clear n0_ n1_; clear hb ho5)))
    go_step3
    exact (by assumption : ∀ (a : Act) (w : World), Code.wp _ _ _ a w → _) _ _ (hpass k _ _ ⟨v106, (y105), put_u rfl ⟨H', ⟨Nat.le_refl _⟩, ⟨by (with_reducible repeat (first | apply Kd.R_alloc | apply Kd.R_drewN | apply Kd.R_drew)); exact HO107.out⟩, ⟨by repeat (first | (with_reducible first | exact HB.out | apply below_alloc | apply pw_below_drewN | apply below_drew1) | exact HB.out)⟩⟩⟩)
  ·rw [if_neg c3] at H
   exact absurd H (by simp)
 ·rw [if_neg c2] at H
  exact absurd H (by simp)

end Go.Proofs.Ytblnkfnafbmgnaa.QTakesSwap
