-- WRITTEN BY mkprint.py, a program of this session (out of the translation). Lean checks it.
import Derived.Test.YtpgegljlgicpkaaDoorQExtendSoundx0
import Derived.Test.YtpgegljlgicpkaaDoorQExtendSoundx1
import Derived.Test.YtpgegljlgicpkaaDoorQExtendSoundx2
import Derived.Test.YtpgegljlgicpkaaDoorQExtendSoundx3
import Derived.Test.YtpgegljlgicpkaaDoorQExtendSoundx5
namespace Go.Proofs.YtpgegljlgicpkaaDoor.QExtendSound
open Go.RowKit Go.Proofs.YtpgegljlgicpkaaDoorW.PrintWords Go.Proofs.YtpgegljlgicpkaaDoorW.PrintLast Go.Proofs.YtpgegljlgicpkaaDoorW.PrintMore
attribute [local go_sem] max2_int min2_int max_two min_two max_three min_three max_four min_four   -- for this text's walks alone
set_option linter.unusedVariables false
set_option linter.unusedSimpArgs false

/-! ### chirographkeep_ExtendSound: function 8 -/
mutual
def chirographkeep_ExtendSound.l0 : Nat → List (List Int) → List (List Int) → List (List Int) → Int → Int → Option (Bool)
  | 0, _, _, _, _, _ => none
  | k + 1, x3, x9, x10, x36, x37 => if x37 < x36 then (if 0 ≤ x37 then (if x37 < (x9.length : Int) then (if x37 < (x10.length : Int) then (chirographkeep_ExtendSound.l0 k x3 x9 (x10.set (x37 : Int).toNat (rd_L4 x9 x37)) x36 (wrap64 (x37 + 1))) else (none)) else (none)) else (none)) else (if (x9.length : Int) > (x10.length : Int) then (if 0 ≤ (x10.length : Int) then (if (x10.length : Int) ≤ (x9.length : Int) then (chirographkeep_ExtendSound.j1 k x3 (x9.take ((x10.length : Int) : Int).toNat) x10) else (none)) else (none)) else (chirographkeep_ExtendSound.j1 k x3 x9 x10))
def chirographkeep_ExtendSound.j1 : Nat → List (List Int) → List (List Int) → List (List Int) → Option (Bool)
  | 0, _, _, _ => none
  | k + 1, x3, x9, x10 => (roll_Root.f k 2 x9).bind fun bt304 => ((roll_Root.f k 2 x10).bind fun bt308 => ((roll_Extend.f k 2 x10 (x9.length : Int)).bind fun bt312 => ((roll_CheckExtend.f k 2 bt304.1 (x9.length : Int) bt308.1 (x10.length : Int) x3).bind fun t316 => ((roll_CheckExtend.f k 2 bt304.1 (x9.length : Int) bt308.1 (x10.length : Int) bt312.1).bind fun t317 => (if 0 ≤ (x9.length : Int) then (if (x9.length : Int) ≤ (x10.length : Int) then ((chirographkeep_sameLists.f k x9 (x10.take ((x9.length : Int) : Int).toNat)).bind fun t323 => (if bt304.2 = 0 then (if bt308.2 = 0 then (if bt312.2 = 0 then (if (bt308.1.length : Int) > 0 then (if t316 = 0 then (if t323 = true then (some ((t317 == 0) == t323)) else (some false)) else (some ((t317 == 0) == t323))) else (some false)) else (some false)) else (some false)) else (some false))) else (none)) else (none))))))
end
def chirographkeep_ExtendSound.f (k : Nat) (l0 : List (S40)) (l1 : List (S40)) (a2 : Int) (l3 : List (List Int)) : Option (Bool) := (chirographkeep_entriesOf.f k l0).bind fun t286 => ((chirographkeep_entriesOf.f k l1).bind fun t289 => (if t289.length < 5864062014805 then ((some (t289 ++ [(([120] : List Int))] : List (List Int))).bind fun y295 => ((chirographkeep_picked.f a2 (wrap64 ((mn (t286.length : Int) (y295.length : Int)) + 1))).bind fun t298 => (chirographkeep_ExtendSound.l0 k l3 t286 y295 t298 0))) else (none)))
theorem chirographkeep_ExtendSound.mono_l : ∀ k, (∀ y0 y1 y2 y3 y4, LeO (chirographkeep_ExtendSound.l0 k y0 y1 y2 y3 y4) (chirographkeep_ExtendSound.l0 (k + 1) y0 y1 y2 y3 y4)) ∧ (∀ y0 y1 y2, LeO (chirographkeep_ExtendSound.j1 k y0 y1 y2) (chirographkeep_ExtendSound.j1 (k + 1) y0 y1 y2))
  | 0 => ⟨fun _ _ _ _ _ r h => by simp [chirographkeep_ExtendSound.l0] at h, fun _ _ _ r h => by simp [chirographkeep_ExtendSound.j1] at h⟩
  | k + 1 => by
    obtain ⟨ih0, ih1⟩ := chirographkeep_ExtendSound.mono_l k
    refine ⟨?_, ?_⟩
    · intro y0 y1 y2 y3 y4
      unfold chirographkeep_ExtendSound.l0
      repeat' first
      | (with_reducible exact ih0 _ _ _ _ _)
      | (with_reducible exact ih1 _ _ _)
      | (with_reducible exact chirographkeep_entriesOf.mono _ _)
      | (with_reducible exact chirographkeep_sameLists.mono _ _ _)
      | (with_reducible exact roll_CheckExtend.mono _ _ _ _ _ _ _)
      | (with_reducible exact roll_Extend.mono _ _ _ _)
      | (with_reducible exact roll_Root.mono _ _ _)
      | (with_reducible exact LeO.refl _)
      | (with_reducible exact LeO.none _)
      | (with_reducible refine LeO.ite ?_ ?_)
      | (with_reducible refine LeO.bind ?_ (fun _ => ?_))
      | exact ih0 _ _ _ _ _
      | exact ih1 _ _ _
      | exact chirographkeep_entriesOf.mono _ _
      | exact chirographkeep_sameLists.mono _ _ _
      | exact roll_CheckExtend.mono _ _ _ _ _ _ _
      | exact roll_Extend.mono _ _ _ _
      | exact roll_Root.mono _ _ _
      | exact LeO.none _
      | refine LeO.ite ?_ ?_
      | refine LeO.bind ?_ (fun _ => ?_)
    · intro y0 y1 y2
      unfold chirographkeep_ExtendSound.j1
      repeat' first
      | (with_reducible exact ih0 _ _ _ _ _)
      | (with_reducible exact ih1 _ _ _)
      | (with_reducible exact chirographkeep_entriesOf.mono _ _)
      | (with_reducible exact chirographkeep_sameLists.mono _ _ _)
      | (with_reducible exact roll_CheckExtend.mono _ _ _ _ _ _ _)
      | (with_reducible exact roll_Extend.mono _ _ _ _)
      | (with_reducible exact roll_Root.mono _ _ _)
      | (with_reducible exact LeO.refl _)
      | (with_reducible exact LeO.none _)
      | (with_reducible refine LeO.ite ?_ ?_)
      | (with_reducible refine LeO.bind ?_ (fun _ => ?_))
      | exact ih0 _ _ _ _ _
      | exact ih1 _ _ _
      | exact chirographkeep_entriesOf.mono _ _
      | exact chirographkeep_sameLists.mono _ _ _
      | exact roll_CheckExtend.mono _ _ _ _ _ _ _
      | exact roll_Extend.mono _ _ _ _
      | exact roll_Root.mono _ _ _
      | exact LeO.none _
      | refine LeO.ite ?_ ?_
      | refine LeO.bind ?_ (fun _ => ?_)
theorem chirographkeep_ExtendSound.mono : ∀ a0 a1 a2 a3 k, LeO (chirographkeep_ExtendSound.f k a0 a1 a2 a3) (chirographkeep_ExtendSound.f (k + 1) a0 a1 a2 a3) := by
  intro a0 a1 a2 a3 k
  obtain ⟨ih0, ih1⟩ := chirographkeep_ExtendSound.mono_l k
  unfold chirographkeep_ExtendSound.f
  repeat' first
      | (with_reducible exact ih0 _ _ _ _ _)
      | (with_reducible exact ih1 _ _ _)
      | (with_reducible exact chirographkeep_entriesOf.mono _ _)
      | (with_reducible exact chirographkeep_sameLists.mono _ _ _)
      | (with_reducible exact roll_CheckExtend.mono _ _ _ _ _ _ _)
      | (with_reducible exact roll_Extend.mono _ _ _ _)
      | (with_reducible exact roll_Root.mono _ _ _)
      | (with_reducible exact LeO.refl _)
      | (with_reducible exact LeO.none _)
      | (with_reducible refine LeO.ite ?_ ?_)
      | (with_reducible refine LeO.bind ?_ (fun _ => ?_))
      | exact ih0 _ _ _ _ _
      | exact ih1 _ _ _
      | exact chirographkeep_entriesOf.mono _ _
      | exact chirographkeep_sameLists.mono _ _ _
      | exact roll_CheckExtend.mono _ _ _ _ _ _ _
      | exact roll_Extend.mono _ _ _ _
      | exact roll_Root.mono _ _ _
      | exact LeO.none _
      | refine LeO.ite ?_ ?_
      | refine LeO.bind ?_ (fun _ => ?_)
set_option maxHeartbeats 8000000 in
set_option maxRecDepth 100000 in
theorem chirographkeep_ExtendSound.calls (k : Nat) (A0 : Option Addr) (c0 : Nat) (l0 : List (S40)) (A1 : Option Addr) (c1 : Nat) (l1 : List (S40)) (a2 : Int) (A3 : Option Addr) (c3 : Nat) (l3 : List (List Int)) (r : Bool) (w : World) (hr0 : Kd.C k40 w A0 l0.length l0) (hc0 : l0.length ≤ c0) (hr1 : Kd.C k40 w A1 l1.length l1) (hc1 : l1.length ≤ c1) (hr3 : Kd.C (Kd.slice 5 (Kd.int .u8)) w A3 l3.length l3) (hc3 : l3.length ≤ c3) (h : chirographkeep_ExtendSound.f k l0 l1 a2 l3 = some r) (hr_ : r = true) :
    Calls Tryd.prog 8 #[.slice A0 l0.length c0, .slice A1 l1.length c1, .int .i64 a2, .slice A3 l3.length c3] w fun e w' => e = .returned (.bool r) ∧ Below w.heap.size w w' := by
  have HR0 := Aside0.mk hr0
  have HC0 := Aside0.mk hc0
  clear hr0 hc0
  have HR1 := Aside0.mk hr1
  have HC1 := Aside0.mk hc1
  clear hr1 hc1
  have HR3 := Aside0.mk hr3
  have HC3 := Aside0.mk hc3
  clear hr3 hc3
  have HB := Aside0.mk (Below.refl w.heap.size w)
  have H : ((chirographkeep_entriesOf.f k l0).bind fun t286 => ((chirographkeep_entriesOf.f k l1).bind fun t289 => (if t289.length < 5864062014805 then ((some (t289 ++ [(([120] : List Int))] : List (List Int))).bind fun y295 => ((chirographkeep_picked.f a2 (wrap64 ((mn (t286.length : Int) (y295.length : Int)) + 1))).bind fun t298 => (chirographkeep_ExtendSound.l0 k l3 t286 y295 t298 0))) else (none)))) = some r := h
  clear h
  replace H := Option.bind_eq_some_iff.mp H
  obtain ⟨t286, A50, H⟩ := H
  replace H : ((chirographkeep_entriesOf.f k l1).bind fun t289 => (if t289.length < 5864062014805 then ((some (t289 ++ [(([120] : List Int))] : List (List Int))).bind fun y295 => ((chirographkeep_picked.f a2 (wrap64 ((mn (t286.length : Int) (y295.length : Int)) + 1))).bind fun t298 => (chirographkeep_ExtendSound.l0 k l3 t286 y295 t298 0))) else (none))) = some r := H
  have A5 := Aside0.mk A50
  clear A50
  replace H := Option.bind_eq_some_iff.mp H
  obtain ⟨t289, A60, H⟩ := H
  replace H : (if t289.length < 5864062014805 then ((some (t289 ++ [(([120] : List Int))] : List (List Int))).bind fun y295 => ((chirographkeep_picked.f a2 (wrap64 ((mn (t286.length : Int) (y295.length : Int)) + 1))).bind fun t298 => (chirographkeep_ExtendSound.l0 k l3 t286 y295 t298 0))) else (none)) = some r := H
  have A6 := Aside0.mk A60
  clear A60
  obtain ⟨y292, hy292⟩ : ∃ y_ : List Int, y_ = (([120] : List Int)) := ⟨_, rfl⟩
  replace H : (if t289.length < 5864062014805 then ((some (t289 ++ [y292] : List (List Int))).bind fun y295 => ((chirographkeep_picked.f a2 (wrap64 ((mn (t286.length : Int) (y295.length : Int)) + 1))).bind fun t298 => (chirographkeep_ExtendSound.l0 k l3 t286 y295 t298 0))) else (none)) = some r := by first | (rw [hy292]; with_reducible exact H) | (have H2_ := (Option.bind_some _ _).symm.trans H; rw [hy292]; with_reducible exact H2_) | (have H2_ := (Option.bind_some _ _).symm.trans H; with_reducible exact H2_) | with_reducible exact H | (rw [hy292]; exact H) | exact H
  have Ny292 := Aside0.mk hy292
  clear hy292
  by_cases c7 : t289.length < 5864062014805
  · rw [if_pos c7] at H
    have LMc7 := Aside0.mk c7
    clear c7
    obtain ⟨y295, hy295⟩ : ∃ y_ : List (List Int), y_ = (t289 ++ [y292]) := ⟨_, rfl⟩
    replace H : ((chirographkeep_picked.f a2 (wrap64 ((mn (t286.length : Int) (y295.length : Int)) + 1))).bind fun t298 => (chirographkeep_ExtendSound.l0 k l3 t286 y295 t298 0)) = some r := by first | (rw [hy295]; with_reducible exact H) | (have H2_ := (Option.bind_some _ _).symm.trans H; rw [hy295]; with_reducible exact H2_) | (have H2_ := (Option.bind_some _ _).symm.trans H; with_reducible exact H2_) | with_reducible exact H | (rw [hy295]; exact H) | exact H
    have Ny295 := Aside0.mk hy295
    clear hy295
    obtain ⟨ji8, hji8⟩ : ∃ j_ : Int, (mn (t286.length : Int) (y295.length : Int)) = j_ := ⟨_, rfl⟩
    replace H : ((chirographkeep_picked.f a2 (wrap64 ((ji8) + 1))).bind fun t298 => (chirographkeep_ExtendSound.l0 k l3 t286 y295 t298 0)) = some r := by first | (rw [hji8] at H; exact H) | (simp only [hji8] at H ⊢; exact H)
    (try rw [hji8] at A5)
    (try rw [hji8] at A6)
    (try (have hji8l : 0 ≤ ji8 := by (rw [← hji8]; unfold mn; (repeat' split) <;> omega)))
    (try (have hji8m : 0 ≤ ji8 := by omega))
    have hji8_ : (if (y295.length : Int) < (t286.length : Int) then (y295.length : Int) else (t286.length : Int)) = ji8 := hji8
    have hji8_n : (if y295.length < t286.length then (y295.length : Int) else (t286.length : Int)) = ji8 := by have z_ := hji8_; simp only [Int.ofNat_lt] at z_; exact z_
    replace H := Option.bind_eq_some_iff.mp H
    obtain ⟨t298, A90, H⟩ := H
    replace H : (chirographkeep_ExtendSound.l0 k l3 t286 y295 t298 0) = some r := H
    have A9 := Aside0.mk A90
    clear A90
    have H' := Aside0.mk H
    clear H
    go_enter Tryd.func8, Tryd.ntmps8
    go_wp2_with (first | ((with_reducible refine gate_callee (f := 13) rfl ?_); refine goesL_ (some 22) rfl rfl Tryd.func13 (by kernel_rfl) rfl #[.slice A0 l0.length c0] rfl (by (try simp only [List.map_toArray, List.map_cons, List.map_nil]); first | done | rfl | (simp only [List.length_drop, List.length_take]; rfl)) ?_; (with_reducible refine (chirographkeep_entriesOf.calls k (fun k_ => k_ < w.heap.size) _ _ l0 t286 _ ?side1 A5.out).mono ?_); (case side1 => exact Kd.V_mk HC0.out (Kd.F_below (Kd.C_F k40_heap HR0.out) (by repeat (first | (with_reducible first | exact HB.out | apply below_alloc | apply pw_below_drewN | apply below_drew1) | exact HB.out)))); rintro e w10 ⟨v287, rfl, ho0, hb⟩; refine ⟨_, rfl, ?_⟩; (try replace ho0 := Kd.S_N ho0); have n0_ := Aside0.mk (Kd.N_lower (Kd.N_mono (ok' := fun k_ => True) ho0 (fun k_ hk_ => trivial)) (below_size (by repeat (first | (with_reducible first | exact HB.out | apply below_alloc | apply pw_below_drewN | apply below_drew1) | exact HB.out)))); have n1_ := Aside0.mk (below_step (by repeat (first | (with_reducible first | exact HB.out | apply below_alloc | apply pw_below_drewN | apply below_drew1) | exact HB.out)) hb); clear HB; have HO288 := n0_; have HB := n1_; clear n0_ n1_; (try clear hb); (try clear hb2); (try clear hk); (try clear hi); (try clear ho0)) | ((with_reducible refine gate_callee (f := 13) rfl ?_); refine goesL_ (some 24) rfl rfl Tryd.func13 (by kernel_rfl) rfl #[.slice A1 l1.length c1] rfl (by (try simp only [List.map_toArray, List.map_cons, List.map_nil]); first | done | rfl | (simp only [List.length_drop, List.length_take]; rfl)) ?_; (with_reducible refine (chirographkeep_entriesOf.calls k (fun k_ => k_ < w.heap.size) _ _ l1 t289 _ ?side1 A6.out).mono ?_); (case side1 => exact Kd.V_mk HC1.out (Kd.F_below (Kd.C_F k40_heap HR1.out) (by repeat (first | (with_reducible first | exact HB.out | apply below_alloc | apply pw_below_drewN | apply below_drew1) | exact HB.out)))); rintro e w11 ⟨v290, rfl, ho0, hb⟩; refine ⟨_, rfl, ?_⟩; (try replace ho0 := Kd.S_N ho0); have n0_ := Aside0.mk (Kd.N_elder' (by (with_reducible repeat (first | apply Kd.N_alloc | apply Kd.N_drewN | apply Kd.N_drew)); exact HO288.out) (Kd.N_base ho0) hb); have n1_ := Aside0.mk (Kd.N_lower (Kd.N_mono (ok' := fun k_ => some k_ ≠ (v287 : Value).ownBlock) ho0 (fun k_ hk_ => Or.elim hk_ (fun hs_ => fun e_ => Nat.not_le.2 hs_ (Kd.N_base HO288.out k_ e_.symm)) (fun hn_ => (Kd.fresh' (Kd.N_lt (by (with_reducible repeat (first | apply Kd.N_alloc | apply Kd.N_drewN | apply Kd.N_drew)); exact HO288.out)) k_ hn_)))) (below_size (by repeat (first | (with_reducible first | exact HB.out | apply below_alloc | apply pw_below_drewN | apply below_drew1) | exact HB.out)))); have n2_ := Aside0.mk (below_step (by repeat (first | (with_reducible first | exact HB.out | apply below_alloc | apply pw_below_drewN | apply below_drew1) | exact HB.out)) hb); clear HO288; clear HB; have HO288 := n0_; have HO291 := n1_; have HB := n2_; clear n0_ n1_ n2_; (try clear hb); (try clear hb2); (try clear hk); (try clear hi); (try clear ho0)) | ((with_reducible refine gate_dst (N := 26) rfl ?_); (try (refine gate_guard (by rfl) ?_; dsimp only)); refine V_mark _ 5 rfl (N := 26) rfl 34 _ rfl ([120] : List Int) rfl rfl (by first | rfl | (go_simp; done) | (go_simp; rfl)) Tryd.underlying34 Tryd.underlying5 (by decide) (Below.refl _ _) (Nat.le_refl _) ?_; intro v293 w12 ho13 hb hg_ hnew_; clear hg_ hnew_; (first | rw [← Ny292.out] at ho13 | (simp only [Int.reduceToNat] at ho13; rw [← Ny292.out] at ho13)); have n0_ := Aside0.mk (Kd.N_below (by (with_reducible repeat (first | apply Kd.N_alloc | apply Kd.N_drewN | apply Kd.N_drew)); exact HO288.out) hb); have n1_ := Aside0.mk (Kd.N_below (by (with_reducible repeat (first | apply Kd.N_alloc | apply Kd.N_drewN | apply Kd.N_drew)); exact HO291.out) hb); have n2_ := Aside0.mk (Kd.V_lower (Kd.V_mono (ok' := fun k_ => some k_ ≠ (v287 : Value).ownBlock ∧ some k_ ≠ (v290 : Value).ownBlock) ho13 (fun k_ hk_ => ⟨(Kd.fresh' (Kd.N_lt (by (with_reducible repeat (first | apply Kd.N_alloc | apply Kd.N_drewN | apply Kd.N_drew)); exact HO288.out)) k_ hk_), (Kd.fresh' (Kd.N_lt (by (with_reducible repeat (first | apply Kd.N_alloc | apply Kd.N_drewN | apply Kd.N_drew)); exact HO291.out)) k_ hk_)⟩)) (below_size (by repeat (first | (with_reducible first | exact HB.out | apply below_alloc | apply pw_below_drewN | apply below_drew1) | exact HB.out)))); have n3_ := Aside0.mk (below_step (by repeat (first | (with_reducible first | exact HB.out | apply below_alloc | apply pw_below_drewN | apply below_drew1) | exact HB.out)) hb); clear HO288; clear HO291; clear HB; have HO288 := n0_; have HO291 := n1_; have HO294 := n2_; have HB := n3_; clear n0_ n1_ n2_ n3_; clear hb ho13; obtain ⟨Ao15, co15, eo15⟩ := Kd.V_slice HO294.out; subst eo15) | ((with_reducible refine gate_builtin (b := .append) (xs := #[.tmp 24, .tmp 27]) rfl ?_); (try (refine gate_guard (by rfl) ?_; dsimp only)); at_builtin; refine Kd.N_append (Kd.slice 5 (Kd.int .u8)) (w0 := w) w.heap.size rfl (.tmp 24) (.tmp 27) 32 34 (.slice none 0 0) 24 rfl Tryd.underlying32 info34 rfl (by decide) (by omega) v290 t289 y292 [.slice Ao15 y292.length co15] (fun k_ => some k_ ≠ (v287 : Value).ownBlock) (fun k_ => ((fun k_ => some k_ ≠ (v287 : Value).ownBlock)) k_ ∧ some k_ ≠ (v290 : Value).ownBlock) rfl rfl ?aP (fun _ hk => hk) ?aF ?aO ?aB ?aS ?aL ?_; (case aP => exact (Kd.FK_slice_mk (Kd.V_reads' (Kd.V_mono (ok' := (fun k_ => ((fun k_ => some k_ ≠ (v287 : Value).ownBlock)) k_ ∧ some k_ ≠ (v290 : Value).ownBlock)) (HO294.out) (fun k_ hk => ⟨hk.1, hk.2⟩))).2.1 (Kd.V_F (Kd.V_mono (ok' := (fun k_ => ((fun k_ => some k_ ≠ (v287 : Value).ownBlock)) k_ ∧ some k_ ≠ (v290 : Value).ownBlock)) (HO294.out) (fun k_ hk => ⟨hk.1, hk.2⟩))))); (case aB => exact (by repeat (first | (with_reducible first | exact HB.out | apply below_alloc | apply pw_below_drewN | apply below_drew1) | exact HB.out))); (case aF => exact (fun k_ hk => Kd.fresh' (Kd.N_lt (by (with_reducible repeat (first | apply Kd.N_alloc | apply Kd.N_drewN | apply Kd.N_drew)); exact HO288.out)) k_ hk)); (case aO => exact (by (with_reducible repeat (first | apply Kd.N_alloc | apply Kd.N_drewN | apply Kd.N_drew)); exact HO291.out)); (case aS => exact (below_size (by repeat (first | (with_reducible first | exact HB.out | apply below_alloc | apply pw_below_drewN | apply below_drew1) | exact HB.out)))); (case aL => have := LMc7.out; omega); intro v296 w14 ho hb hg hat; rw [← Ny295.out] at ho; have n0_ := Aside0.mk (Kd.N_afterv (ok := (fun _ => True)) (by (with_reducible repeat (first | apply Kd.N_alloc | apply Kd.N_drewN | apply Kd.N_drew)); exact HO288.out) hg hat); have n1_ := Aside0.mk (Kd.V_afterv (ok := (fun k_ => some k_ ≠ (v287 : Value).ownBlock)) (by (with_reducible repeat (first | apply Kd.V_alloc | apply Kd.V_drewN | apply Kd.V_drew)); exact HO294.out) hg hat); have n2_ := Aside0.mk (hb); have n3_ := Aside0.mk (ho); clear HO288; clear HO294; clear HB; clear HO291; have HO288 := n0_; have HO294 := n1_; have HB := n2_; have HO297 := n3_; clear n0_ n1_ n2_ n3_; clear ho hb hg hat; obtain ⟨Ao16, co16, eo16⟩ := Kd.N_slice HO288.out; subst eo16; obtain ⟨Ao17, co17, eo17⟩ := Kd.N_slice HO297.out; subst eo17) | ((with_reducible refine gate_callee (f := 10) rfl ?_); refine goesL_ (some 36) rfl rfl Tryd.func10 (by kernel_rfl) rfl #[.int .i64 a2, .int .i64 (wrap64 ((ji8) + 1))] rfl (by (try simp only [List.map_toArray, List.map_cons, List.map_nil]); first | done | (simp only [hji8]; rfl) | rfl | (simp only [List.length_drop, List.length_take]; rfl)) ?_; (with_reducible refine (chirographkeep_picked.calls a2 (wrap64 ((ji8) + 1)) t298 _ A9.out).mono ?_); rintro e w' ⟨rfl, ⟨nd, rfl⟩⟩; refine ⟨_, rfl, ?_⟩))
    go_loopg [37] k (fun kq v37 w' => ∃ (x10_1 : List (List Int)) (x37_1 : Int), v37 = .int .i64 x37_1 ∧ Aside0 (chirographkeep_ExtendSound.l0 kq l3 t286 x10_1 t298 x37_1 = some r) ∧ Aside0 (kq ≤ k) ∧ Aside0 (Kd.N (Kd.slice 5 (Kd.int .u8)) 34 w' w.heap.size (fun k_ => some k_ ≠ ((.slice Ao17 y295.length co17) : Value).ownBlock) (.slice Ao16 t286.length co16) t286) ∧ Aside0 (Kd.N (Kd.slice 5 (Kd.int .u8)) 34 w' w.heap.size (fun k_ => some k_ ≠ ((.slice Ao16 t286.length co16) : Value).ownBlock) (.slice Ao17 y295.length co17) x10_1) ∧ Aside0 (Below w.heap.size w w'))
    case atStart => exact ⟨(y295), (0), (by first | rfl | (simp; done) | (simp [*]; done)), H', ⟨Nat.le_refl _⟩, ⟨by (with_reducible repeat (first | apply Kd.N_alloc | apply Kd.N_drewN | apply Kd.N_drew)); exact Kd.N_mono HO288.out (fun _ hk => hk.2)⟩, ⟨by (with_reducible repeat (first | apply Kd.N_alloc | apply Kd.N_drewN | apply Kd.N_drew)); exact HO297.out⟩, ⟨by repeat (first | (with_reducible first | exact HB.out | apply below_alloc | apply pw_below_drewN | apply below_drew1) | exact HB.out)⟩⟩
    case round =>
      clear H'
      try clear c1
      try clear p2
      try clear c3
      try clear p6
      try clear c7
      try clear c8
      try clear c10
      try clear c13
      obtain ⟨x10_1, x37_1, rfl, HA, HK1, HO_9, HO_10, HB⟩ := hrel
      have hl10_1 := (Kd.N_reads' HO_10.out).1
      rw [hl10_1] at HO_10
      (try simp only [hl10_1])
      (try simp only [hl10_1] at HO_9)
      cases gk with
      | zero => exact absurd HA.out (by simp [chirographkeep_ExtendSound.l0])
      | succ k1 =>
        have H := HA.out
        clear HA
        simp only [chirographkeep_ExtendSound.l0] at H
        by_cases c18 : x37_1 < t298
        · rw [if_pos c18] at H
          have c18b0 : decide (x37_1 < t298) = true := decide_eq_true c18
          (try (have c18z0_0 := c18b0; simp only [hl10_1] at c18z0_0))
          clear c18
          by_cases c19 : 0 ≤ x37_1
          · rw [if_pos c19] at H
            have c19b0 : decide (0 ≤ x37_1) = true := decide_eq_true c19
            (try (have c19z0_0 := c19b0; simp only [hl10_1] at c19z0_0))
            clear c19
            by_cases c20 : x37_1 < (t286.length : Int)
            · rw [if_pos c20] at H
              have c20b0 : decide (x37_1 < (t286.length : Int)) = true := decide_eq_true c20
              (try (have c20z0_0 := c20b0; simp only [hl10_1] at c20z0_0))
              clear c20
              by_cases c21 : x37_1 < (x10_1.length : Int)
              · rw [if_pos c21] at H
                have c21b0 : decide (x37_1 < (x10_1.length : Int)) = true := decide_eq_true c21
                (try (have c21z0_0 := c21b0; simp only [hl10_1] at c21z0_0))
                clear c21
                obtain ⟨y300, hy300⟩ : ∃ y_ : List (List Int), y_ = (x10_1.set (x37_1 : Int).toNat (rd_L4 t286 x37_1)) := ⟨_, rfl⟩
                replace H : (chirographkeep_ExtendSound.l0 k1 l3 t286 y300 t298 (wrap64 (x37_1 + 1))) = some r := by first | (rw [hy300]; with_reducible exact H) | (have H2_ := (Option.bind_some _ _).symm.trans H; rw [hy300]; with_reducible exact H2_) | (have H2_ := (Option.bind_some _ _).symm.trans H; with_reducible exact H2_) | with_reducible exact H | (rw [hy300]; exact H) | exact H
                have Ny300 := Aside0.mk hy300
                clear hy300
                have H' := Aside0.mk H
                clear H
                have p299 : 0 ≤ (x37_1 : Int) := of_decide_eq_true (by first | (with_reducible assumption) | assumption)
                have q299 : x37_1 < (t286.length : Int) := of_decide_eq_true (by first | (with_reducible assumption) | assumption)
                obtain ⟨ad299, A299_0, c299_0, e299, hx299_0, hl299_0, hi299_0⟩ := at_L4 (Kd.N_reads' HO_9.out).2.2 x37_1 p299 q299
                cases e299
                obtain ⟨ce299, hce299, hMe299, hcc299⟩ := Kd.N_get HO_9.out [] x37_1 p299 (by first | exact q299 | exact of_decide_eq_true (by first | (with_reducible assumption) | assumption) | (have e_ := (Kd.N_reads' HO_9.out).1; omega))
                obtain ⟨ua299_0, uc299_0, rfl, ul299_0, ge299_0⟩ := Kd.FK_slice_open hMe299
                have hv299_0 := hcc299 0 _ rfl
                rw [Nat.add_zero, show ((Kd.slice 5 (Kd.int .u8))).sz = 1 from rfl, Nat.mul_one] at hv299_0
                replace hv299_0 := Option.some.inj (hv299_0.symm.trans hx299_0)
                injection hv299_0 with hva_ hvn_ hvc_
                rw [hva_] at ge299_0
                rw [hvc_] at ul299_0
                have HL299_0 := Aside0.mk (show Kd.V (Kd.int .u8) 5 _ w.heap.size _ _ (rd_L4 t286 x37_1) from Kd.V_mk ul299_0 ge299_0)
                clear hva_ hvn_ hvc_ ge299_0 ul299_0
                clear hcc299 hce299
                have HR299_0 := Aside0.mk hi299_0
                have HC299_0 := Aside0.mk hl299_0
                clear hi299_0 hl299_0
                replace p299 := eq_true p299
                replace q299 := eq_true q299
                have p22 : 0 ≤ (x37_1 : Int) := of_decide_eq_true (by first | (with_reducible assumption) | assumption)
                have q22 : (x37_1 : Int) < ((x10_1.length : Int) : Int) := of_decide_eq_true (by first | (with_reducible assumption) | assumption)
                obtain ⟨go22, co22, eo22, gb22, gl22, cl22, HG22⟩ := Kd.N_form HO_10.out (by omega)
                (first | cases eo22 | (injection eo22 with ea_ en_ ec_; (first | subst ea_ | (injection ea_ with ea_; subst ea_)); subst ec_; clear en_))
                have GB22 := Aside0.mk gb22
                have GG22 := Aside0.mk HG22
                clear gb22 gl22 HG22
                obtain ⟨ce22, hcl22, hM22, hcc22, hfr22⟩ := Kd.N_elem HO_10.out [] (x37_1 : Int) p22 q22
                obtain ⟨ua22_0, uc22_0, rfl, ul22_0, ge22_0⟩ := Kd.FK_slice_open hM22
                have hx22_0 := hcc22 0 _ rfl
                have hf22_0 := hfr22 0
                (try simp only [show ((Kd.slice 5 (Kd.int .u8))).sz = 1 from rfl, Nat.mul_one, Nat.add_zero] at hx22_0)
                (try simp only [show ((Kd.slice 5 (Kd.int .u8))).sz = 1 from rfl, Nat.mul_one, Nat.add_zero] at hf22_0)
                clear hcl22 hcc22 hfr22 hM22
                replace p22 := eq_true p22
                replace q22 := eq_true q22
                have HX23 := Aside0.mk (show Kd.N (Kd.slice 5 (Kd.int .u8)) 34 wr w.heap.size (fun k_ => some k_ ≠ (.slice (some ad299) t286.length co16 : Value).ownBlock) (.slice (some ⟨go22, 0, none⟩) x10_1.length co17) x10_1 from (by (with_reducible repeat (first | apply Kd.N_alloc | apply Kd.N_drewN | apply Kd.N_drew)); exact HO_10.out))
                obtain ⟨ce23, hcl23, hM23, hcc23, hfr23⟩ := Kd.N_elem HX23.out [] (x37_1 : Int) (of_decide_eq_true (by first | (with_reducible assumption) | assumption)) (by have h_ : (x37_1 : Int) < ((x10_1.length : Int) : Int) := of_decide_eq_true (by first | (with_reducible assumption) | assumption); first | exact h_ | (have e_ := (Kd.N_reads' HO_10.out).1; omega) | simpa using h_)
                obtain ⟨ua23_0, uc23_0, rfl, ul23_0, ge23_0⟩ := Kd.FK_slice_open hM23
                have HP23 := Kd.N_seg HX23.out (x37_1 : Int) (of_decide_eq_true (by first | (with_reducible assumption) | assumption)) (by have h_ : (x37_1 : Int) < ((x10_1.length : Int) : Int) := of_decide_eq_true (by first | (with_reducible assumption) | assumption); first | exact h_ | (have e_ := (Kd.N_reads' HO_10.out).1; omega) | simpa using h_) (seg := [.slice A299_0 (rd_L4 t286 x37_1).length c299_0]) (j := 0) hcl23 hcc23 (show 1 ≤ 1 from by decide) (x' := rd_L4 t286 x37_1) (Kd.FK_slice_mk (Kd.V_reads' (Kd.V_mono (ok' := (fun k_ => ((fun k_ => some k_ ≠ (.slice (some ad299) t286.length co16 : Value).ownBlock)) k_ ∧ k_ ≠ go22)) (HL299_0.out) (fun k_ hk => ⟨hk.2, fun e_ => (hk.1) (by rw [e_]; rfl)⟩))).2.1 (Kd.V_F (Kd.V_mono (ok' := (fun k_ => ((fun k_ => some k_ ≠ (.slice (some ad299) t286.length co16 : Value).ownBlock)) k_ ∧ k_ ≠ go22)) (HL299_0.out) (fun k_ hk => ⟨hk.2, fun e_ => (hk.1) (by rw [e_]; rfl)⟩)))) (fun _ hk => hk)
                have hx23_0 := hcc23 0 _ rfl
                (try simp only [show ((Kd.slice 5 (Kd.int .u8))).sz = 1 from rfl, Nat.mul_one, Nat.add_zero] at hx23_0)
                have hf23_0 := hfr23 0
                (try simp only [show ((Kd.slice 5 (Kd.int .u8))).sz = 1 from rfl, Nat.mul_one, Nat.add_zero] at hf23_0)
                clear hcl23 hcc23 hfr23 hM23
                (try simp only [show ((Kd.slice 5 (Kd.int .u8))).sz = 1 from rfl, Nat.mul_one, Nat.add_zero] at HP23)
                (try simp only [show ((Kd.slice 5 (Kd.int .u8))).sz = 1 from rfl, Nat.mul_one, Nat.add_zero] at HP23)
                go_wp2_with (first | ((with_reducible refine gate_store (t := 34) (p := 46) rfl ?_); refine store_event (t := 34) (p := 46) (v := ?vo_w24) (w1 := (wr.setCell ⟨go22, (x37_1 : Int).toNat, none⟩ (.slice A299_0 (rd_L4 t286 x37_1).length c299_0))) ?hg ?ho ?hn ?hr ?_; (case ho => rfl); (case hg => rfl); (case hn => rfl); (case hr => first | (go_simp; done) | (go_simp; rfl)); intro w24 hw; have hg : wr.grownBy w24 (some go22) := (by rw [hw]; exact HP23.2); have hp_ : Kd.N (Kd.slice 5 (Kd.int .u8)) 34 w24 w.heap.size (fun k_ => some k_ ≠ (.slice (some ad299) t286.length co16 : Value).ownBlock) (.slice (some ⟨go22, 0, none⟩) x10_1.length co17) y300 := (by rw [hw, Ny300.out]; exact HP23.1); clear HP23; have n0_ := Aside0.mk (Kd.N_afterv (v := (.slice (some ⟨go22, 0, none⟩) x10_1.length co17)) (v1 := (.slice (some ⟨go22, 0, none⟩) x10_1.length co17)) (ok := (fun _ => True)) (by (with_reducible repeat (first | apply Kd.N_alloc | apply Kd.N_drewN | apply Kd.N_drew)); exact Kd.N_mono HO_9.out (fun _ hk => ⟨trivial, hk⟩)) hg (.inl rfl)); have n1_ := Aside0.mk (hp_); have n2_ := Aside0.mk (Kd.V_afterv (v := (.slice (some ⟨go22, 0, none⟩) x10_1.length co17)) (v1 := (.slice (some ⟨go22, 0, none⟩) x10_1.length co17)) (ok := (fun k_ => some k_ ≠ (.slice (some ad299) t286.length co16 : Value).ownBlock)) (by (with_reducible repeat (first | apply Kd.V_alloc | apply Kd.V_drewN | apply Kd.V_drew)); exact Kd.V_mono HL299_0.out (fun _ hk => ⟨hk.2, hk.1⟩)) hg (.inl rfl)); have n3_ := Aside0.mk ((by rw [hw]; exact below_set (HB.out) GB22.out : Below w.heap.size w w24)); clear HO_9; clear HO_10; clear HL299_0; clear HB; have HO_9 := n0_; have HO_10 := n1_; have HL299_0 := n2_; have HB := n3_; clear n0_ n1_ n2_ n3_; clear hg hw hp_))
                (try simp only [← hl10_1])
                go_roundg k1
                case measure => have := HK1.out; omega
                case rel => exact ⟨(y300), (wrap64 (x37_1 + 1)), (by first | rfl | (simp; done) | (simp [*]; done)), H', ⟨by have := HK1.out; omega⟩, ⟨by (try simp only [hl10_1]); (with_reducible repeat (first | apply Kd.N_alloc | apply Kd.N_drewN | apply Kd.N_drew)); exact Kd.N_mono HO_9.out (fun _ hk => hk.2)⟩, ⟨by (try simp only [hl10_1]); (with_reducible repeat (first | apply Kd.N_alloc | apply Kd.N_drewN | apply Kd.N_drew)); exact HO_10.out⟩, ⟨by repeat (first | (with_reducible first | exact HB.out | apply below_alloc | apply pw_below_drewN | apply below_drew1) | exact HB.out)⟩⟩
              · rw [if_neg c21] at H
                exact absurd H (by simp)
            · rw [if_neg c20] at H
              exact absurd H (by simp)
          · rw [if_neg c19] at H
            exact absurd H (by simp)
        · rw [if_neg c18] at H
          have c18b0 : decide (x37_1 < t298) = false := decide_eq_false c18
          (try (have c18z0_0 := c18b0; simp only [hl10_1] at c18z0_0))
          clear c18
          have HC25 := Aside0.mk H
          clear H
          go_upto_if 52 with (fail)
          go_cut [9] (fun v9 wc => ∃ (kq : Nat) (x9_24 : List (List Int)), Aside0 (chirographkeep_ExtendSound.j1 kq l3 x9_24 x10_1 = some r) ∧ Aside0 (kq ≤ k1) ∧ Aside0 (Kd.N (Kd.slice 5 (Kd.int .u8)) 34 wc w.heap.size (fun k_ => some k_ ≠ ((.slice Ao17 x10_1.length co17) : Value).ownBlock) v9 x9_24) ∧ Aside0 (Kd.N (Kd.slice 5 (Kd.int .u8)) 34 wc w.heap.size (fun k_ => some k_ ≠ (v9 : Value).ownBlock) (.slice Ao17 x10_1.length co17) x10_1) ∧ Aside0 (Below w.heap.size w wc))
          case first =>
            have H := HC25.out
            clear HC25
            by_cases c26 : (t286.length : Int) > (x10_1.length : Int)
            · rw [if_pos c26] at H
              have c26b0 : decide ((x10_1.length : Int) < (t286.length : Int)) = true := decide_eq_true c26
              (try (have c26z0_0 := c26b0; simp only [hl10_1] at c26z0_0))
              have c26b1 : decide (x10_1.length < t286.length) = true := decide_eq_true (Int.ofNat_lt.mp c26)
              (try (have c26z1_0 := c26b1; simp only [hl10_1] at c26z1_0))
              clear c26
              (first | rw [c26b0] | (simp only [i64_w, i32_w]; rw [c26b0]) | rw [c26b1] | skip)
              by_cases c27 : 0 ≤ (x10_1.length : Int)
              · rw [if_pos c27] at H
                have c27b0 := eq_true c27
                have c27b1 : decide (0 ≤ (x10_1.length : Int)) = true := decide_eq_true c27
                clear c27
                by_cases c28 : (x10_1.length : Int) ≤ (t286.length : Int)
                · rw [if_pos c28] at H
                  have c28b0 := eq_true c28
                  have c28b1 : decide ((x10_1.length : Int) ≤ (t286.length : Int)) = true := decide_eq_true c28
                  clear c28
                  obtain ⟨y301, hy301⟩ : ∃ y_ : List (List Int), y_ = (t286.take ((x10_1.length : Int) : Int).toNat) := ⟨_, rfl⟩
                  replace H : (chirographkeep_ExtendSound.j1 k1 l3 y301 x10_1) = some r := by first | (rw [hy301]; with_reducible exact H) | (have H2_ := (Option.bind_some _ _).symm.trans H; rw [hy301]; with_reducible exact H2_) | (have H2_ := (Option.bind_some _ _).symm.trans H; with_reducible exact H2_) | with_reducible exact H | (rw [hy301]; exact H) | exact H
                  have Ny301 := Aside0.mk hy301
                  clear hy301
                  have H' := Aside0.mk H
                  clear H
                  have q29 : ((x10_1.length : Int) : Int) ≤ ((t286.length : Int) : Int) := of_decide_eq_true (by first | (with_reducible assumption) | assumption)
                  obtain ⟨i029, hi029, _, hsz29, _⟩ := info_parts info34
                  have hcut29 := cut_to (P := Tryd.prog) 32 34 .i64 Tryd.underlying32 hi029 Ao16 t286.length co16 (x10_1.length : Int) (of_decide_eq_true (by first | (with_reducible assumption) | assumption)) q29 (Kd.N_reads' HO_9.out).2.1
                  have hr29 := Kd.N_take (m := ((x10_1.length : Int) : Int).toNat) HO_9.out (by omega)
                  have hy29 : y301.length = ((x10_1.length : Int) : Int).toNat := (by rw [Ny301.out, List.length_take]; omega)
                  rw [← Ny301.out] at hr29
                  rw [← hy29] at hr29 hcut29
                  clear hy29 hi029 hsz29 HO_9
                  have HO303 := Aside0.mk hr29
                  clear hr29
                  replace q29 := eq_true q29
                  have HE29 : Aside0 ((Value.slice Ao16 y301.length co16).ownBlock = (.slice Ao16 t286.length co16 : Value).ownBlock) := ⟨by cases (Ao16 : Option Addr) <;> rfl⟩
                  have n_ := Aside0.mk (Kd.N_mono (ok' := fun k_ => some k_ ≠ (.slice Ao16 y301.length co16 : Value).ownBlock) HO_10.out (fun k_ hk => (by rw [HE29.out]; exact hk)))
                  clear HO_10
                  have HO_10 := n_
                  clear n_
                  go_wp2
                  go_meet
                  case rel => exact ⟨_, (y301), H', ⟨by have := HK1.out; first | omega | exact Nat.le_refl _⟩, ⟨by (try simp only [hl10_1]); (with_reducible repeat (first | apply Kd.N_alloc | apply Kd.N_drewN | apply Kd.N_drew)); exact HO303.out⟩, ⟨by (try simp only [hl10_1]); (with_reducible repeat (first | apply Kd.N_alloc | apply Kd.N_drewN | apply Kd.N_drew)); exact HO_10.out⟩, ⟨by repeat (first | (with_reducible first | exact HB.out | apply below_alloc | apply pw_below_drewN | apply below_drew1) | exact HB.out)⟩⟩
                · rw [if_neg c28] at H
                  exact absurd H (by simp)
              · rw [if_neg c27] at H
                exact absurd H (by simp)
            · rw [if_neg c26] at H
              have c26b0 : decide ((x10_1.length : Int) < (t286.length : Int)) = false := decide_eq_false c26
              (try (have c26z0_0 := c26b0; simp only [hl10_1] at c26z0_0))
              have c26b1 : decide (x10_1.length < t286.length) = false := decide_eq_false (fun h => c26 (Int.ofNat_lt.mpr h))
              (try (have c26z1_0 := c26b1; simp only [hl10_1] at c26z1_0))
              clear c26
              (first | rw [c26b0] | (simp only [i64_w, i32_w]; rw [c26b0]) | rw [c26b1] | skip)
              have H' := Aside0.mk H
              clear H
              go_wp2
              go_meet
              case rel => exact ⟨_, (t286), H', ⟨by have := HK1.out; first | omega | exact Nat.le_refl _⟩, ⟨by (try simp only [hl10_1]); (with_reducible repeat (first | apply Kd.N_alloc | apply Kd.N_drewN | apply Kd.N_drew)); exact HO_9.out⟩, ⟨by (try simp only [hl10_1]); (with_reducible repeat (first | apply Kd.N_alloc | apply Kd.N_drewN | apply Kd.N_drew)); exact HO_10.out⟩, ⟨by repeat (first | (with_reducible first | exact HB.out | apply below_alloc | apply pw_below_drewN | apply below_drew1) | exact HB.out)⟩⟩
          case rest =>
            clear HC25
            try clear c1
            try clear c2
            try clear p2
            try clear q2
            try clear hx2
            try clear c3
            try clear p6
            try clear c7
            try clear c8
            try clear c10
            try clear c13
            try clear c18
            try clear c18b0
            try clear c19
            try clear c19b0
            try clear c20
            try clear c20b0
            try clear c21
            try clear c21b0
            try clear c22
            try clear p22
            try clear q22
            try clear hx22
            try clear hf22
            try clear c23
            try clear hx23
            try clear hf23
            try clear c26
            try clear c26b0
            try clear c26b1
            try clear c27
            try clear c27b0
            try clear c27b1
            try clear c28
            try clear c28b0
            try clear c28b1
            try clear c29
            try clear p29
            try clear q29
            try clear hx29
            try clear hx22_0
            try clear hx23_0
            try clear hx299_0
            try clear p2
            try clear p22
            try clear p299
            try clear p6
            try clear q22
            try clear q29
            try clear q299
            obtain ⟨kq, x9_24, HA, HJ24, HO_9, HO_10, HB⟩ := hcut
            cases kq with
            | zero => exact absurd HA.out (by simp [chirographkeep_ExtendSound.j1])
            | succ kj24 =>
              have H := HA.out
              clear HA
              simp only [chirographkeep_ExtendSound.j1] at H
              replace H := Option.bind_eq_some_iff.mp H
              obtain ⟨⟨t304, t305⟩, A300, H⟩ := H
              replace H : ((roll_Root.f kj24 2 x10_1).bind fun bt308 => ((roll_Extend.f kj24 2 x10_1 (x9_24.length : Int)).bind fun bt312 => ((roll_CheckExtend.f kj24 2 t304 (x9_24.length : Int) bt308.1 (x10_1.length : Int) l3).bind fun t316 => ((roll_CheckExtend.f kj24 2 t304 (x9_24.length : Int) bt308.1 (x10_1.length : Int) bt312.1).bind fun t317 => (if 0 ≤ (x9_24.length : Int) then (if (x9_24.length : Int) ≤ (x10_1.length : Int) then ((chirographkeep_sameLists.f kj24 x9_24 (x10_1.take ((x9_24.length : Int) : Int).toNat)).bind fun t323 => (if t305 = 0 then (if bt308.2 = 0 then (if bt312.2 = 0 then (if (bt308.1.length : Int) > 0 then (if t316 = 0 then (if t323 = true then (some ((t317 == 0) == t323)) else (some false)) else (some ((t317 == 0) == t323))) else (some false)) else (some false)) else (some false)) else (some false))) else (none)) else (none)))))) = some r := H
              have A30 := Aside0.mk A300
              clear A300
              replace H := Option.bind_eq_some_iff.mp H
              obtain ⟨⟨t308, t309⟩, A310, H⟩ := H
              replace H : ((roll_Extend.f kj24 2 x10_1 (x9_24.length : Int)).bind fun bt312 => ((roll_CheckExtend.f kj24 2 t304 (x9_24.length : Int) t308 (x10_1.length : Int) l3).bind fun t316 => ((roll_CheckExtend.f kj24 2 t304 (x9_24.length : Int) t308 (x10_1.length : Int) bt312.1).bind fun t317 => (if 0 ≤ (x9_24.length : Int) then (if (x9_24.length : Int) ≤ (x10_1.length : Int) then ((chirographkeep_sameLists.f kj24 x9_24 (x10_1.take ((x9_24.length : Int) : Int).toNat)).bind fun t323 => (if t305 = 0 then (if t309 = 0 then (if bt312.2 = 0 then (if (t308.length : Int) > 0 then (if t316 = 0 then (if t323 = true then (some ((t317 == 0) == t323)) else (some false)) else (some ((t317 == 0) == t323))) else (some false)) else (some false)) else (some false)) else (some false))) else (none)) else (none))))) = some r := H
              have A31 := Aside0.mk A310
              clear A310
              replace H := Option.bind_eq_some_iff.mp H
              obtain ⟨⟨t312, t315⟩, A320, H⟩ := H
              replace H : ((roll_CheckExtend.f kj24 2 t304 (x9_24.length : Int) t308 (x10_1.length : Int) l3).bind fun t316 => ((roll_CheckExtend.f kj24 2 t304 (x9_24.length : Int) t308 (x10_1.length : Int) t312).bind fun t317 => (if 0 ≤ (x9_24.length : Int) then (if (x9_24.length : Int) ≤ (x10_1.length : Int) then ((chirographkeep_sameLists.f kj24 x9_24 (x10_1.take ((x9_24.length : Int) : Int).toNat)).bind fun t323 => (if t305 = 0 then (if t309 = 0 then (if t315 = 0 then (if (t308.length : Int) > 0 then (if t316 = 0 then (if t323 = true then (some ((t317 == 0) == t323)) else (some false)) else (some ((t317 == 0) == t323))) else (some false)) else (some false)) else (some false)) else (some false))) else (none)) else (none)))) = some r := H
              have A32 := Aside0.mk A320
              clear A320
              replace H := Option.bind_eq_some_iff.mp H
              obtain ⟨t316, A330, H⟩ := H
              replace H : ((roll_CheckExtend.f kj24 2 t304 (x9_24.length : Int) t308 (x10_1.length : Int) t312).bind fun t317 => (if 0 ≤ (x9_24.length : Int) then (if (x9_24.length : Int) ≤ (x10_1.length : Int) then ((chirographkeep_sameLists.f kj24 x9_24 (x10_1.take ((x9_24.length : Int) : Int).toNat)).bind fun t323 => (if t305 = 0 then (if t309 = 0 then (if t315 = 0 then (if (t308.length : Int) > 0 then (if t316 = 0 then (if t323 = true then (some ((t317 == 0) == t323)) else (some false)) else (some ((t317 == 0) == t323))) else (some false)) else (some false)) else (some false)) else (some false))) else (none)) else (none))) = some r := H
              have A33 := Aside0.mk A330
              clear A330
              replace H := Option.bind_eq_some_iff.mp H
              obtain ⟨t317, A340, H⟩ := H
              replace H : (if 0 ≤ (x9_24.length : Int) then (if (x9_24.length : Int) ≤ (x10_1.length : Int) then ((chirographkeep_sameLists.f kj24 x9_24 (x10_1.take ((x9_24.length : Int) : Int).toNat)).bind fun t323 => (if t305 = 0 then (if t309 = 0 then (if t315 = 0 then (if (t308.length : Int) > 0 then (if t316 = 0 then (if t323 = true then (some ((t317 == 0) == t323)) else (some false)) else (some ((t317 == 0) == t323))) else (some false)) else (some false)) else (some false)) else (some false))) else (none)) else (none)) = some r := H
              have A34 := Aside0.mk A340
              clear A340
              by_cases c35 : 0 ≤ (x9_24.length : Int)
              · rw [if_pos c35] at H
                have c35b0 := eq_true c35
                have c35b1 : decide (0 ≤ (x9_24.length : Int)) = true := decide_eq_true c35
                clear c35
                by_cases c36 : (x9_24.length : Int) ≤ (x10_1.length : Int)
                · rw [if_pos c36] at H
                  have c36b0 := eq_true c36
                  have c36b1 : decide ((x9_24.length : Int) ≤ (x10_1.length : Int)) = true := decide_eq_true c36
                  clear c36
                  obtain ⟨y318, hy318⟩ : ∃ y_ : List (List Int), y_ = (x10_1.take ((x9_24.length : Int) : Int).toNat) := ⟨_, rfl⟩
                  replace H : ((chirographkeep_sameLists.f kj24 x9_24 y318).bind fun t323 => (if t305 = 0 then (if t309 = 0 then (if t315 = 0 then (if (t308.length : Int) > 0 then (if t316 = 0 then (if t323 = true then (some ((t317 == 0) == t323)) else (some false)) else (some ((t317 == 0) == t323))) else (some false)) else (some false)) else (some false)) else (some false))) = some r := by first | (rw [hy318]; with_reducible exact H) | (have H2_ := (Option.bind_some _ _).symm.trans H; rw [hy318]; with_reducible exact H2_) | (have H2_ := (Option.bind_some _ _).symm.trans H; with_reducible exact H2_) | with_reducible exact H | (rw [hy318]; exact H) | exact H
                  have Ny318 := Aside0.mk hy318
                  clear hy318
                  replace H := Option.bind_eq_some_iff.mp H
                  obtain ⟨t323, A370, H⟩ := H
                  replace H : (if t305 = 0 then (if t309 = 0 then (if t315 = 0 then (if (t308.length : Int) > 0 then (if t316 = 0 then (if t323 = true then (some ((t317 == 0) == t323)) else (some false)) else (some ((t317 == 0) == t323))) else (some false)) else (some false)) else (some false)) else (some false)) = some r := H
                  have A37 := Aside0.mk A370
                  clear A370
                  by_cases c38 : t305 = 0
                  · rw [if_pos c38] at H
                    have c38b0 : (t305 == 0) = true := beq_iff_eq.mpr c38
                    (try (have c38z0_0 := c38b0; simp only [hl10_1] at c38z0_0))
                    have c38b1 : (t305 != 0) = false := bne_eq_false_iff_eq.mpr c38
                    (try (have c38z1_0 := c38b1; simp only [hl10_1] at c38z1_0))
                    clear c38
                    by_cases c39 : t309 = 0
                    · rw [if_pos c39] at H
                      have c39b0 : (t309 == 0) = true := beq_iff_eq.mpr c39
                      (try (have c39z0_0 := c39b0; simp only [hl10_1] at c39z0_0))
                      have c39b1 : (t309 != 0) = false := bne_eq_false_iff_eq.mpr c39
                      (try (have c39z1_0 := c39b1; simp only [hl10_1] at c39z1_0))
                      clear c39
                      by_cases c40 : t315 = 0
                      · rw [if_pos c40] at H
                        have c40b0 : (t315 == 0) = true := beq_iff_eq.mpr c40
                        (try (have c40z0_0 := c40b0; simp only [hl10_1] at c40z0_0))
                        have c40b1 : (t315 != 0) = false := bne_eq_false_iff_eq.mpr c40
                        (try (have c40z1_0 := c40b1; simp only [hl10_1] at c40z1_0))
                        clear c40
                        by_cases c41 : (t308.length : Int) > 0
                        · rw [if_pos c41] at H
                          have c41b0 : decide (0 < (t308.length : Int)) = true := decide_eq_true c41
                          (try (have c41z0_0 := c41b0; simp only [hl10_1] at c41z0_0))
                          have c41b1 : decide (0 < t308.length) = true := decide_eq_true (by omega)
                          (try (have c41z1_0 := c41b1; simp only [hl10_1] at c41z1_0))
                          clear c41
                          by_cases c42 : t316 = 0
                          · rw [if_pos c42] at H
                            have c42b0 : (t316 == 0) = true := beq_iff_eq.mpr c42
                            (try (have c42z0_0 := c42b0; simp only [hl10_1] at c42z0_0))
                            have c42b1 : (t316 != 0) = false := bne_eq_false_iff_eq.mpr c42
                            (try (have c42z1_0 := c42b1; simp only [hl10_1] at c42z1_0))
                            clear c42
                            by_cases c43 : t323 = true
                            · subst c43
                              have H1 : (some ((t317 == 0) == true)) = some r := by rw [if_pos rfl] at H; exact H
                              clear H
                              have H := H1
                              clear H1
                              obtain rfl := Option.some.inj H
                              obtain ⟨Ao44, co44, eo44⟩ := Kd.N_slice HO_9.out
                              subst eo44
                              go_wp2_with (first | ((with_reducible refine gate_callee (f := 14) rfl ?_); refine goesL_ (some 59) rfl rfl Tryd.func14 (by kernel_rfl) rfl #[.int .i64 2, .slice Ao44 x9_24.length co44] rfl (by (try simp only [List.map_toArray, List.map_cons, List.map_nil]); first | done | rfl | (simp only [List.length_drop, List.length_take]; rfl)) ?_; (with_reducible refine (roll_Root.calls kj24 2 _ _ x9_24 t304 t305 _ ?side1 ?side2 A30.out).mono ?_); (case side1 => repeat (first | exact (Kd.N_reads' HO_9.out).2.2 | (with_reducible refine Kd.C_alloc ?_ _) | (with_reducible refine Kd.C_drewN ?_ _) | (with_reducible refine Kd.C_drew ?_))); (case side2 => exact (Kd.N_reads' HO_9.out).2.1); rintro e w45 ⟨v306, rfl, ho0, hb⟩; refine ⟨_, rfl, ?_⟩; (try replace ho0 := Kd.S_N ho0); have n0_ := Aside0.mk (Kd.N_elder' (by (with_reducible repeat (first | apply Kd.N_alloc | apply Kd.N_drewN | apply Kd.N_drew)); exact HO_9.out) (Kd.R_base ho0) hb); have n1_ := Aside0.mk (Kd.N_elder' (by (with_reducible repeat (first | apply Kd.N_alloc | apply Kd.N_drewN | apply Kd.N_drew)); exact HO_10.out) (Kd.R_base ho0) hb); have n2_ := Aside0.mk (Kd.R_lower ho0 (below_size (by repeat (first | (with_reducible first | exact HB.out | apply below_alloc | apply pw_below_drewN | apply below_drew1) | exact HB.out)))); have n3_ := Aside0.mk (below_step (by repeat (first | (with_reducible first | exact HB.out | apply below_alloc | apply pw_below_drewN | apply below_drew1) | exact HB.out)) hb); clear HO_9; clear HO_10; clear HB; have HO_9 := n0_; have HO_10 := n1_; have HO307 := n2_; have HB := n3_; clear n0_ n1_ n2_ n3_; (try clear hb); (try clear hb2); (try clear hk); (try clear hi); (try clear ho0)) | ((with_reducible refine gate_callee (f := 14) rfl ?_); refine goesL_ (some 64) rfl rfl Tryd.func14 (by kernel_rfl) rfl #[.int .i64 2, .slice Ao17 x10_1.length co17] rfl (by (try simp only [List.map_toArray, List.map_cons, List.map_nil]); first | done | rfl | (simp only [List.length_drop, List.length_take]; rfl)) ?_; (with_reducible refine (roll_Root.calls kj24 2 _ _ x10_1 t308 t309 _ ?side1 ?side2 A31.out).mono ?_); (case side1 => repeat (first | exact (Kd.N_reads' HO_10.out).2.2 | (with_reducible refine Kd.C_alloc ?_ _) | (with_reducible refine Kd.C_drewN ?_ _) | (with_reducible refine Kd.C_drew ?_))); (case side2 => exact (Kd.N_reads' HO_10.out).2.1); rintro e w46 ⟨v310, rfl, ho0, hb⟩; refine ⟨_, rfl, ?_⟩; (try replace ho0 := Kd.S_N ho0); have n0_ := Aside0.mk (Kd.N_elder' (by (with_reducible repeat (first | apply Kd.N_alloc | apply Kd.N_drewN | apply Kd.N_drew)); exact HO_9.out) (Kd.R_base ho0) hb); have n1_ := Aside0.mk (Kd.N_elder' (by (with_reducible repeat (first | apply Kd.N_alloc | apply Kd.N_drewN | apply Kd.N_drew)); exact HO_10.out) (Kd.R_base ho0) hb); have n2_ := Aside0.mk (Kd.R_elder' (by (with_reducible repeat (first | apply Kd.R_alloc | apply Kd.R_drewN | apply Kd.R_drew)); exact HO307.out) (Kd.R_base ho0) hb); have n3_ := Aside0.mk (Kd.R_lower (Kd.R_new' ho0 (Kd.R_lt (by (with_reducible repeat (first | apply Kd.R_alloc | apply Kd.R_drewN | apply Kd.R_drew)); exact HO307.out))) (below_size (by repeat (first | (with_reducible first | exact HB.out | apply below_alloc | apply pw_below_drewN | apply below_drew1) | exact HB.out)))); have n4_ := Aside0.mk (below_step (by repeat (first | (with_reducible first | exact HB.out | apply below_alloc | apply pw_below_drewN | apply below_drew1) | exact HB.out)) hb); clear HO_9; clear HO_10; clear HO307; clear HB; have HO_9 := n0_; have HO_10 := n1_; have HO307 := n2_; have HO311 := n3_; have HB := n4_; clear n0_ n1_ n2_ n3_ n4_; (try clear hb); (try clear hb2); (try clear hk); (try clear hi); (try clear ho0)) | ((with_reducible refine gate_callee (f := 24) rfl ?_); refine goesL_ (some 71) rfl rfl Tryd.func24 (by kernel_rfl) rfl #[.int .i64 2, .slice Ao17 x10_1.length co17, .int .i64 (x9_24.length : Int)] rfl (by (try simp only [List.map_toArray, List.map_cons, List.map_nil]); first | done | rfl | (simp only [List.length_drop, List.length_take]; rfl)) ?_; (with_reducible refine (roll_Extend.calls kj24 2 (fun k_ => ((some k_ ≠ (.slice Ao44 x9_24.length co44 : Value).ownBlock ∧ some k_ ≠ (v306 : Value).ownBlock) ∧ some k_ ≠ (v310 : Value).ownBlock)) _ _ x10_1 (x9_24.length : Int) t312 t315 _ ?side1 A32.out).mono ?_); (case side1 => exact Kd.N_V (HO_10.out)); rintro e w47 ⟨v313, rfl, ho0, hb⟩; refine ⟨_, rfl, ?_⟩; (try replace ho0 := Kd.S_N ho0); have n0_ := Aside0.mk (Kd.N_elder' (by (with_reducible repeat (first | apply Kd.N_alloc | apply Kd.N_drewN | apply Kd.N_drew)); exact HO_9.out) (Kd.N_base ho0) hb); have n1_ := Aside0.mk (Kd.N_elder' (by (with_reducible repeat (first | apply Kd.N_alloc | apply Kd.N_drewN | apply Kd.N_drew)); exact HO_10.out) (Kd.N_base ho0) hb); have n2_ := Aside0.mk (Kd.R_below (by (with_reducible repeat (first | apply Kd.R_alloc | apply Kd.R_drewN | apply Kd.R_drew)); exact HO307.out) hb); have n3_ := Aside0.mk (Kd.R_below (by (with_reducible repeat (first | apply Kd.R_alloc | apply Kd.R_drewN | apply Kd.R_drew)); exact HO311.out) hb); have n4_ := Aside0.mk (Kd.N_lower (Kd.N_mono (ok' := fun k_ => some k_ ≠ (.slice Ao44 x9_24.length co44 : Value).ownBlock ∧ some k_ ≠ (v306 : Value).ownBlock ∧ some k_ ≠ (v310 : Value).ownBlock) ho0 (fun k_ hk_ => ⟨Or.elim hk_ (fun hs_ => hs_.1.1) (fun hn_ => (Kd.fresh' (Kd.N_lt (by (with_reducible repeat (first | apply Kd.N_alloc | apply Kd.N_drewN | apply Kd.N_drew)); exact HO_9.out)) k_ hn_)), Or.elim hk_ (fun hs_ => hs_.1.2) (fun hn_ => (Kd.fresh' (Kd.R_lt (by (with_reducible repeat (first | apply Kd.R_alloc | apply Kd.R_drewN | apply Kd.R_drew)); exact HO307.out)) k_ hn_)), Or.elim hk_ (fun hs_ => hs_.2) (fun hn_ => (Kd.fresh' (Kd.R_lt (by (with_reducible repeat (first | apply Kd.R_alloc | apply Kd.R_drewN | apply Kd.R_drew)); exact HO311.out)) k_ hn_))⟩)) (below_size (by repeat (first | (with_reducible first | exact HB.out | apply below_alloc | apply pw_below_drewN | apply below_drew1) | exact HB.out)))); have n5_ := Aside0.mk (below_step (by repeat (first | (with_reducible first | exact HB.out | apply below_alloc | apply pw_below_drewN | apply below_drew1) | exact HB.out)) hb); clear HO_9; clear HO_10; clear HO307; clear HO311; clear HB; have HO_9 := n0_; have HO_10 := n1_; have HO307 := n2_; have HO311 := n3_; have HO314 := n4_; have HB := n5_; clear n0_ n1_ n2_ n3_ n4_ n5_; (try clear hb); (try clear hb2); (try clear hk); (try clear hi); (try clear ho0); obtain ⟨Ao48, co48, eo48⟩ := Kd.R_slice HO307.out; subst eo48; obtain ⟨Ao49, co49, eo49⟩ := Kd.R_slice HO311.out; subst eo49) | ((with_reducible refine gate_callee (f := 25) rfl ?_); refine goesL_ (some 81) rfl rfl Tryd.func25 (by kernel_rfl) rfl #[.int .i64 2, .slice Ao48 t304.length co48, .int .i64 (x9_24.length : Int), .slice Ao49 t308.length co49, .int .i64 (x10_1.length : Int), .slice A3 l3.length c3] rfl (by (try simp only [List.map_toArray, List.map_cons, List.map_nil]); first | done | rfl | (simp only [List.length_drop, List.length_take]; rfl)) ?_; (with_reducible refine (roll_CheckExtend.calls kj24 2 _ _ t304 (x9_24.length : Int) _ _ t308 (x10_1.length : Int) _ _ l3 t316 _ ?side1 ?side2 ?side3 ?side4 ?side5 ?side6 A33.out).mono ?_); (case side1 => repeat (first | exact (Kd.R_reads' HO307.out).2.2 | (with_reducible refine Kd.C_alloc ?_ _) | (with_reducible refine Kd.C_drewN ?_ _) | (with_reducible refine Kd.C_drew ?_))); (case side2 => exact (Kd.R_reads' HO307.out).2.1); (case side3 => repeat (first | exact (Kd.R_reads' HO311.out).2.2 | (with_reducible refine Kd.C_alloc ?_ _) | (with_reducible refine Kd.C_drewN ?_ _) | (with_reducible refine Kd.C_drew ?_))); (case side4 => exact (Kd.R_reads' HO311.out).2.1); (case side5 => repeat (first | exact (Kd.C_below HR3.out HB.out) | (with_reducible refine Kd.C_alloc ?_ _) | (with_reducible refine Kd.C_drewN ?_ _) | (with_reducible refine Kd.C_drew ?_))); (case side6 => exact HC3.out); rintro e w50 ⟨rfl, hb⟩; refine ⟨_, rfl, ?_⟩; have n0_ := Aside0.mk (Kd.N_below (by (with_reducible repeat (first | apply Kd.N_alloc | apply Kd.N_drewN | apply Kd.N_drew)); exact HO_9.out) hb); have n1_ := Aside0.mk (Kd.N_below (by (with_reducible repeat (first | apply Kd.N_alloc | apply Kd.N_drewN | apply Kd.N_drew)); exact HO_10.out) hb); have n2_ := Aside0.mk (Kd.R_below (by (with_reducible repeat (first | apply Kd.R_alloc | apply Kd.R_drewN | apply Kd.R_drew)); exact HO307.out) hb); have n3_ := Aside0.mk (Kd.R_below (by (with_reducible repeat (first | apply Kd.R_alloc | apply Kd.R_drewN | apply Kd.R_drew)); exact HO311.out) hb); have n4_ := Aside0.mk (Kd.N_below (by (with_reducible repeat (first | apply Kd.N_alloc | apply Kd.N_drewN | apply Kd.N_drew)); exact HO314.out) hb); have n5_ := Aside0.mk (below_step (by repeat (first | (with_reducible first | exact HB.out | apply below_alloc | apply pw_below_drewN | apply below_drew1) | exact HB.out)) hb); clear HO_9; clear HO_10; clear HO307; clear HO311; clear HO314; clear HB; have HO_9 := n0_; have HO_10 := n1_; have HO307 := n2_; have HO311 := n3_; have HO314 := n4_; have HB := n5_; clear n0_ n1_ n2_ n3_ n4_ n5_; (try clear hb); (try clear hb2); (try clear hk); (try clear hi); obtain ⟨Ao51, co51, eo51⟩ := Kd.N_slice HO314.out; subst eo51) | ((with_reducible refine gate_callee (f := 25) rfl ?_); refine goesL_ (some 90) rfl rfl Tryd.func25 (by kernel_rfl) rfl #[.int .i64 2, .slice Ao48 t304.length co48, .int .i64 (x9_24.length : Int), .slice Ao49 t308.length co49, .int .i64 (x10_1.length : Int), .slice Ao51 t312.length co51] rfl (by (try simp only [List.map_toArray, List.map_cons, List.map_nil]); first | done | rfl | (simp only [List.length_drop, List.length_take]; rfl)) ?_; (with_reducible refine (roll_CheckExtend.calls kj24 2 _ _ t304 (x9_24.length : Int) _ _ t308 (x10_1.length : Int) _ _ t312 t317 _ ?side1 ?side2 ?side3 ?side4 ?side5 ?side6 A34.out).mono ?_); (case side1 => repeat (first | exact (Kd.R_reads' HO307.out).2.2 | (with_reducible refine Kd.C_alloc ?_ _) | (with_reducible refine Kd.C_drewN ?_ _) | (with_reducible refine Kd.C_drew ?_))); (case side2 => exact (Kd.R_reads' HO307.out).2.1); (case side3 => repeat (first | exact (Kd.R_reads' HO311.out).2.2 | (with_reducible refine Kd.C_alloc ?_ _) | (with_reducible refine Kd.C_drewN ?_ _) | (with_reducible refine Kd.C_drew ?_))); (case side4 => exact (Kd.R_reads' HO311.out).2.1); (case side5 => repeat (first | exact (Kd.N_reads' HO314.out).2.2 | (with_reducible refine Kd.C_alloc ?_ _) | (with_reducible refine Kd.C_drewN ?_ _) | (with_reducible refine Kd.C_drew ?_))); (case side6 => exact (Kd.N_reads' HO314.out).2.1); rintro e w52 ⟨rfl, hb⟩; refine ⟨_, rfl, ?_⟩; have n0_ := Aside0.mk (Kd.N_below (by (with_reducible repeat (first | apply Kd.N_alloc | apply Kd.N_drewN | apply Kd.N_drew)); exact HO_9.out) hb); have n1_ := Aside0.mk (Kd.N_below (by (with_reducible repeat (first | apply Kd.N_alloc | apply Kd.N_drewN | apply Kd.N_drew)); exact HO_10.out) hb); have n2_ := Aside0.mk (Kd.R_below (by (with_reducible repeat (first | apply Kd.R_alloc | apply Kd.R_drewN | apply Kd.R_drew)); exact HO307.out) hb); have n3_ := Aside0.mk (Kd.R_below (by (with_reducible repeat (first | apply Kd.R_alloc | apply Kd.R_drewN | apply Kd.R_drew)); exact HO311.out) hb); have n4_ := Aside0.mk (Kd.N_below (by (with_reducible repeat (first | apply Kd.N_alloc | apply Kd.N_drewN | apply Kd.N_drew)); exact HO314.out) hb); have n5_ := Aside0.mk (below_step (by repeat (first | (with_reducible first | exact HB.out | apply below_alloc | apply pw_below_drewN | apply below_drew1) | exact HB.out)) hb); clear HO_9; clear HO_10; clear HO307; clear HO311; clear HO314; clear HB; have HO_9 := n0_; have HO_10 := n1_; have HO307 := n2_; have HO311 := n3_; have HO314 := n4_; have HB := n5_; clear n0_ n1_ n2_ n3_ n4_ n5_; (try clear hb); (try clear hb2); (try clear hk); (try clear hi); have q53 : ((x9_24.length : Int) : Int) ≤ ((x10_1.length : Int) : Int) := of_decide_eq_true (by first | (with_reducible assumption) | assumption); obtain ⟨i053, hi053, _, hsz53, _⟩ := info_parts info34; have hroom53 : x10_1.length ≤ co17 := (Kd.N_reads' HO_10.out).2.1; have hC53 : Kd.F (Kd.slice 5 (Kd.int .u8)) _ _ Ao17 x10_1.length x10_1 := (Kd.V_at (base := w.heap.size) (Kd.N_V HO_10.out)).2.2; have hcut53 := cut_to (P := Tryd.prog) 32 34 .i64 Tryd.underlying32 hi053 Ao17 x10_1.length co17 (x9_24.length : Int) (of_decide_eq_true (by first | (with_reducible assumption) | assumption)) q53 hroom53; have hr53 := Kd.F_take (m := ((x9_24.length : Int) : Int).toNat) hC53 (by omega); have hy53 : y318.length = ((x9_24.length : Int) : Int).toNat := (by rw [Ny318.out, List.length_take]; omega); rw [← Ny318.out] at hr53; rw [← hy53] at hcut53; have HO322 := Aside0.mk (show Kd.V (Kd.slice 5 (Kd.int .u8)) 34 _ w.heap.size _ (.slice Ao17 y318.length co17) y318 from Kd.V_mk (by omega) hr53); have HC322 := Aside0.mk (show y318.length ≤ co17 from by omega); clear hr53 hC53 hroom53 hi053 hsz53; have KY53 := Aside0.mk hy53; clear hy53; replace q53 := eq_true q53) | ((with_reducible refine gate_callee (f := 15) rfl ?_); refine goesL_ (some 97) rfl rfl Tryd.func15 (by kernel_rfl) rfl #[.slice Ao44 x9_24.length co44, .slice Ao17 y318.length co17] rfl (by (try simp only [List.map_toArray, List.map_cons, List.map_nil]); first | done | rfl | (simp only [List.length_drop, List.length_take]; rfl)) ?_; (with_reducible refine (chirographkeep_sameLists.calls kj24 _ _ x9_24 _ _ y318 true _ ?side1 ?side2 ?side3 ?side4 A37.out).mono ?_); (case side1 => repeat (first | exact (Kd.N_reads' HO_9.out).2.2 | (with_reducible refine Kd.C_alloc ?_ _) | (with_reducible refine Kd.C_drewN ?_ _) | (with_reducible refine Kd.C_drew ?_))); (case side2 => exact (Kd.N_reads' HO_9.out).2.1); (case side3 => repeat (first | exact (Kd.V_reads' HO322.out).2.2 | (with_reducible refine Kd.C_alloc ?_ _) | (with_reducible refine Kd.C_drewN ?_ _) | (with_reducible refine Kd.C_drew ?_))); (case side4 => exact (Kd.V_reads' HO322.out).2.1); rintro e w' ⟨rfl, ⟨nd, rfl⟩⟩; refine ⟨_, rfl, ?_⟩))
                              go_ret
                              exact ⟨by first | rfl | (simp [errW_none, errW_some] <;> rfl) | (simp only [← hji8]; first | rfl | (simp [errW_none, errW_some] <;> rfl)) | (simp [*, errW_none, errW_some] <;> rfl), by repeat (first | (with_reducible first | exact HB.out | apply below_alloc | apply pw_below_drewN | apply below_drew1) | exact HB.out)⟩
                            · replace c43 := Bool.eq_false_iff.mpr c43
                              subst c43
                              have H1 : (some false) = some r := by rw [if_neg (show ¬ (false = true) by decide)] at H; exact H
                              clear H
                              have H := H1
                              clear H1
                              exact absurd (Option.some.inj H) (by rw [hr_]; decide)
                          · rw [if_neg c42] at H
                            have c42b0 : (t316 == 0) = false := beq_eq_false_iff_ne.mpr c42
                            (try (have c42z0_0 := c42b0; simp only [hl10_1] at c42z0_0))
                            have c42b1 : (t316 != 0) = true := bne_iff_ne.mpr c42
                            (try (have c42z1_0 := c42b1; simp only [hl10_1] at c42z1_0))
                            obtain rfl := Option.some.inj H
                            obtain ⟨Ao54, co54, eo54⟩ := Kd.N_slice HO_9.out
                            subst eo54
                            go_wp2_with (first | ((with_reducible refine gate_callee (f := 14) rfl ?_); refine goesL_ (some 59) rfl rfl Tryd.func14 (by kernel_rfl) rfl #[.int .i64 2, .slice Ao54 x9_24.length co54] rfl (by (try simp only [List.map_toArray, List.map_cons, List.map_nil]); first | done | rfl | (simp only [List.length_drop, List.length_take]; rfl)) ?_; (with_reducible refine (roll_Root.calls kj24 2 _ _ x9_24 t304 t305 _ ?side1 ?side2 A30.out).mono ?_); (case side1 => repeat (first | exact (Kd.N_reads' HO_9.out).2.2 | (with_reducible refine Kd.C_alloc ?_ _) | (with_reducible refine Kd.C_drewN ?_ _) | (with_reducible refine Kd.C_drew ?_))); (case side2 => exact (Kd.N_reads' HO_9.out).2.1); rintro e w55 ⟨v306, rfl, ho0, hb⟩; refine ⟨_, rfl, ?_⟩; (try replace ho0 := Kd.S_N ho0); have n0_ := Aside0.mk (Kd.N_elder' (by (with_reducible repeat (first | apply Kd.N_alloc | apply Kd.N_drewN | apply Kd.N_drew)); exact HO_9.out) (Kd.R_base ho0) hb); have n1_ := Aside0.mk (Kd.N_elder' (by (with_reducible repeat (first | apply Kd.N_alloc | apply Kd.N_drewN | apply Kd.N_drew)); exact HO_10.out) (Kd.R_base ho0) hb); have n2_ := Aside0.mk (Kd.R_lower ho0 (below_size (by repeat (first | (with_reducible first | exact HB.out | apply below_alloc | apply pw_below_drewN | apply below_drew1) | exact HB.out)))); have n3_ := Aside0.mk (below_step (by repeat (first | (with_reducible first | exact HB.out | apply below_alloc | apply pw_below_drewN | apply below_drew1) | exact HB.out)) hb); clear HO_9; clear HO_10; clear HB; have HO_9 := n0_; have HO_10 := n1_; have HO307 := n2_; have HB := n3_; clear n0_ n1_ n2_ n3_; (try clear hb); (try clear hb2); (try clear hk); (try clear hi); (try clear ho0)) | ((with_reducible refine gate_callee (f := 14) rfl ?_); refine goesL_ (some 64) rfl rfl Tryd.func14 (by kernel_rfl) rfl #[.int .i64 2, .slice Ao17 x10_1.length co17] rfl (by (try simp only [List.map_toArray, List.map_cons, List.map_nil]); first | done | rfl | (simp only [List.length_drop, List.length_take]; rfl)) ?_; (with_reducible refine (roll_Root.calls kj24 2 _ _ x10_1 t308 t309 _ ?side1 ?side2 A31.out).mono ?_); (case side1 => repeat (first | exact (Kd.N_reads' HO_10.out).2.2 | (with_reducible refine Kd.C_alloc ?_ _) | (with_reducible refine Kd.C_drewN ?_ _) | (with_reducible refine Kd.C_drew ?_))); (case side2 => exact (Kd.N_reads' HO_10.out).2.1); rintro e w56 ⟨v310, rfl, ho0, hb⟩; refine ⟨_, rfl, ?_⟩; (try replace ho0 := Kd.S_N ho0); have n0_ := Aside0.mk (Kd.N_elder' (by (with_reducible repeat (first | apply Kd.N_alloc | apply Kd.N_drewN | apply Kd.N_drew)); exact HO_9.out) (Kd.R_base ho0) hb); have n1_ := Aside0.mk (Kd.N_elder' (by (with_reducible repeat (first | apply Kd.N_alloc | apply Kd.N_drewN | apply Kd.N_drew)); exact HO_10.out) (Kd.R_base ho0) hb); have n2_ := Aside0.mk (Kd.R_elder' (by (with_reducible repeat (first | apply Kd.R_alloc | apply Kd.R_drewN | apply Kd.R_drew)); exact HO307.out) (Kd.R_base ho0) hb); have n3_ := Aside0.mk (Kd.R_lower (Kd.R_new' ho0 (Kd.R_lt (by (with_reducible repeat (first | apply Kd.R_alloc | apply Kd.R_drewN | apply Kd.R_drew)); exact HO307.out))) (below_size (by repeat (first | (with_reducible first | exact HB.out | apply below_alloc | apply pw_below_drewN | apply below_drew1) | exact HB.out)))); have n4_ := Aside0.mk (below_step (by repeat (first | (with_reducible first | exact HB.out | apply below_alloc | apply pw_below_drewN | apply below_drew1) | exact HB.out)) hb); clear HO_9; clear HO_10; clear HO307; clear HB; have HO_9 := n0_; have HO_10 := n1_; have HO307 := n2_; have HO311 := n3_; have HB := n4_; clear n0_ n1_ n2_ n3_ n4_; (try clear hb); (try clear hb2); (try clear hk); (try clear hi); (try clear ho0)) | ((with_reducible refine gate_callee (f := 24) rfl ?_); refine goesL_ (some 71) rfl rfl Tryd.func24 (by kernel_rfl) rfl #[.int .i64 2, .slice Ao17 x10_1.length co17, .int .i64 (x9_24.length : Int)] rfl (by (try simp only [List.map_toArray, List.map_cons, List.map_nil]); first | done | rfl | (simp only [List.length_drop, List.length_take]; rfl)) ?_; (with_reducible refine (roll_Extend.calls kj24 2 (fun k_ => ((some k_ ≠ (.slice Ao54 x9_24.length co54 : Value).ownBlock ∧ some k_ ≠ (v306 : Value).ownBlock) ∧ some k_ ≠ (v310 : Value).ownBlock)) _ _ x10_1 (x9_24.length : Int) t312 t315 _ ?side1 A32.out).mono ?_); (case side1 => exact Kd.N_V (HO_10.out)); rintro e w57 ⟨v313, rfl, ho0, hb⟩; refine ⟨_, rfl, ?_⟩; (try replace ho0 := Kd.S_N ho0); have n0_ := Aside0.mk (Kd.N_elder' (by (with_reducible repeat (first | apply Kd.N_alloc | apply Kd.N_drewN | apply Kd.N_drew)); exact HO_9.out) (Kd.N_base ho0) hb); have n1_ := Aside0.mk (Kd.N_elder' (by (with_reducible repeat (first | apply Kd.N_alloc | apply Kd.N_drewN | apply Kd.N_drew)); exact HO_10.out) (Kd.N_base ho0) hb); have n2_ := Aside0.mk (Kd.R_below (by (with_reducible repeat (first | apply Kd.R_alloc | apply Kd.R_drewN | apply Kd.R_drew)); exact HO307.out) hb); have n3_ := Aside0.mk (Kd.R_below (by (with_reducible repeat (first | apply Kd.R_alloc | apply Kd.R_drewN | apply Kd.R_drew)); exact HO311.out) hb); have n4_ := Aside0.mk (Kd.N_lower (Kd.N_mono (ok' := fun k_ => some k_ ≠ (.slice Ao54 x9_24.length co54 : Value).ownBlock ∧ some k_ ≠ (v306 : Value).ownBlock ∧ some k_ ≠ (v310 : Value).ownBlock) ho0 (fun k_ hk_ => ⟨Or.elim hk_ (fun hs_ => hs_.1.1) (fun hn_ => (Kd.fresh' (Kd.N_lt (by (with_reducible repeat (first | apply Kd.N_alloc | apply Kd.N_drewN | apply Kd.N_drew)); exact HO_9.out)) k_ hn_)), Or.elim hk_ (fun hs_ => hs_.1.2) (fun hn_ => (Kd.fresh' (Kd.R_lt (by (with_reducible repeat (first | apply Kd.R_alloc | apply Kd.R_drewN | apply Kd.R_drew)); exact HO307.out)) k_ hn_)), Or.elim hk_ (fun hs_ => hs_.2) (fun hn_ => (Kd.fresh' (Kd.R_lt (by (with_reducible repeat (first | apply Kd.R_alloc | apply Kd.R_drewN | apply Kd.R_drew)); exact HO311.out)) k_ hn_))⟩)) (below_size (by repeat (first | (with_reducible first | exact HB.out | apply below_alloc | apply pw_below_drewN | apply below_drew1) | exact HB.out)))); have n5_ := Aside0.mk (below_step (by repeat (first | (with_reducible first | exact HB.out | apply below_alloc | apply pw_below_drewN | apply below_drew1) | exact HB.out)) hb); clear HO_9; clear HO_10; clear HO307; clear HO311; clear HB; have HO_9 := n0_; have HO_10 := n1_; have HO307 := n2_; have HO311 := n3_; have HO314 := n4_; have HB := n5_; clear n0_ n1_ n2_ n3_ n4_ n5_; (try clear hb); (try clear hb2); (try clear hk); (try clear hi); (try clear ho0); obtain ⟨Ao58, co58, eo58⟩ := Kd.R_slice HO307.out; subst eo58; obtain ⟨Ao59, co59, eo59⟩ := Kd.R_slice HO311.out; subst eo59) | ((with_reducible refine gate_callee (f := 25) rfl ?_); refine goesL_ (some 81) rfl rfl Tryd.func25 (by kernel_rfl) rfl #[.int .i64 2, .slice Ao58 t304.length co58, .int .i64 (x9_24.length : Int), .slice Ao59 t308.length co59, .int .i64 (x10_1.length : Int), .slice A3 l3.length c3] rfl (by (try simp only [List.map_toArray, List.map_cons, List.map_nil]); first | done | rfl | (simp only [List.length_drop, List.length_take]; rfl)) ?_; (with_reducible refine (roll_CheckExtend.calls kj24 2 _ _ t304 (x9_24.length : Int) _ _ t308 (x10_1.length : Int) _ _ l3 t316 _ ?side1 ?side2 ?side3 ?side4 ?side5 ?side6 A33.out).mono ?_); (case side1 => repeat (first | exact (Kd.R_reads' HO307.out).2.2 | (with_reducible refine Kd.C_alloc ?_ _) | (with_reducible refine Kd.C_drewN ?_ _) | (with_reducible refine Kd.C_drew ?_))); (case side2 => exact (Kd.R_reads' HO307.out).2.1); (case side3 => repeat (first | exact (Kd.R_reads' HO311.out).2.2 | (with_reducible refine Kd.C_alloc ?_ _) | (with_reducible refine Kd.C_drewN ?_ _) | (with_reducible refine Kd.C_drew ?_))); (case side4 => exact (Kd.R_reads' HO311.out).2.1); (case side5 => repeat (first | exact (Kd.C_below HR3.out HB.out) | (with_reducible refine Kd.C_alloc ?_ _) | (with_reducible refine Kd.C_drewN ?_ _) | (with_reducible refine Kd.C_drew ?_))); (case side6 => exact HC3.out); rintro e w60 ⟨rfl, hb⟩; refine ⟨_, rfl, ?_⟩; have n0_ := Aside0.mk (Kd.N_below (by (with_reducible repeat (first | apply Kd.N_alloc | apply Kd.N_drewN | apply Kd.N_drew)); exact HO_9.out) hb); have n1_ := Aside0.mk (Kd.N_below (by (with_reducible repeat (first | apply Kd.N_alloc | apply Kd.N_drewN | apply Kd.N_drew)); exact HO_10.out) hb); have n2_ := Aside0.mk (Kd.R_below (by (with_reducible repeat (first | apply Kd.R_alloc | apply Kd.R_drewN | apply Kd.R_drew)); exact HO307.out) hb); have n3_ := Aside0.mk (Kd.R_below (by (with_reducible repeat (first | apply Kd.R_alloc | apply Kd.R_drewN | apply Kd.R_drew)); exact HO311.out) hb); have n4_ := Aside0.mk (Kd.N_below (by (with_reducible repeat (first | apply Kd.N_alloc | apply Kd.N_drewN | apply Kd.N_drew)); exact HO314.out) hb); have n5_ := Aside0.mk (below_step (by repeat (first | (with_reducible first | exact HB.out | apply below_alloc | apply pw_below_drewN | apply below_drew1) | exact HB.out)) hb); clear HO_9; clear HO_10; clear HO307; clear HO311; clear HO314; clear HB; have HO_9 := n0_; have HO_10 := n1_; have HO307 := n2_; have HO311 := n3_; have HO314 := n4_; have HB := n5_; clear n0_ n1_ n2_ n3_ n4_ n5_; (try clear hb); (try clear hb2); (try clear hk); (try clear hi); obtain ⟨Ao61, co61, eo61⟩ := Kd.N_slice HO314.out; subst eo61) | ((with_reducible refine gate_callee (f := 25) rfl ?_); refine goesL_ (some 90) rfl rfl Tryd.func25 (by kernel_rfl) rfl #[.int .i64 2, .slice Ao58 t304.length co58, .int .i64 (x9_24.length : Int), .slice Ao59 t308.length co59, .int .i64 (x10_1.length : Int), .slice Ao61 t312.length co61] rfl (by (try simp only [List.map_toArray, List.map_cons, List.map_nil]); first | done | rfl | (simp only [List.length_drop, List.length_take]; rfl)) ?_; (with_reducible refine (roll_CheckExtend.calls kj24 2 _ _ t304 (x9_24.length : Int) _ _ t308 (x10_1.length : Int) _ _ t312 t317 _ ?side1 ?side2 ?side3 ?side4 ?side5 ?side6 A34.out).mono ?_); (case side1 => repeat (first | exact (Kd.R_reads' HO307.out).2.2 | (with_reducible refine Kd.C_alloc ?_ _) | (with_reducible refine Kd.C_drewN ?_ _) | (with_reducible refine Kd.C_drew ?_))); (case side2 => exact (Kd.R_reads' HO307.out).2.1); (case side3 => repeat (first | exact (Kd.R_reads' HO311.out).2.2 | (with_reducible refine Kd.C_alloc ?_ _) | (with_reducible refine Kd.C_drewN ?_ _) | (with_reducible refine Kd.C_drew ?_))); (case side4 => exact (Kd.R_reads' HO311.out).2.1); (case side5 => repeat (first | exact (Kd.N_reads' HO314.out).2.2 | (with_reducible refine Kd.C_alloc ?_ _) | (with_reducible refine Kd.C_drewN ?_ _) | (with_reducible refine Kd.C_drew ?_))); (case side6 => exact (Kd.N_reads' HO314.out).2.1); rintro e w62 ⟨rfl, hb⟩; refine ⟨_, rfl, ?_⟩; have n0_ := Aside0.mk (Kd.N_below (by (with_reducible repeat (first | apply Kd.N_alloc | apply Kd.N_drewN | apply Kd.N_drew)); exact HO_9.out) hb); have n1_ := Aside0.mk (Kd.N_below (by (with_reducible repeat (first | apply Kd.N_alloc | apply Kd.N_drewN | apply Kd.N_drew)); exact HO_10.out) hb); have n2_ := Aside0.mk (Kd.R_below (by (with_reducible repeat (first | apply Kd.R_alloc | apply Kd.R_drewN | apply Kd.R_drew)); exact HO307.out) hb); have n3_ := Aside0.mk (Kd.R_below (by (with_reducible repeat (first | apply Kd.R_alloc | apply Kd.R_drewN | apply Kd.R_drew)); exact HO311.out) hb); have n4_ := Aside0.mk (Kd.N_below (by (with_reducible repeat (first | apply Kd.N_alloc | apply Kd.N_drewN | apply Kd.N_drew)); exact HO314.out) hb); have n5_ := Aside0.mk (below_step (by repeat (first | (with_reducible first | exact HB.out | apply below_alloc | apply pw_below_drewN | apply below_drew1) | exact HB.out)) hb); clear HO_9; clear HO_10; clear HO307; clear HO311; clear HO314; clear HB; have HO_9 := n0_; have HO_10 := n1_; have HO307 := n2_; have HO311 := n3_; have HO314 := n4_; have HB := n5_; clear n0_ n1_ n2_ n3_ n4_ n5_; (try clear hb); (try clear hb2); (try clear hk); (try clear hi); have q63 : ((x9_24.length : Int) : Int) ≤ ((x10_1.length : Int) : Int) := of_decide_eq_true (by first | (with_reducible assumption) | assumption); obtain ⟨i063, hi063, _, hsz63, _⟩ := info_parts info34; have hroom63 : x10_1.length ≤ co17 := (Kd.N_reads' HO_10.out).2.1; have hC63 : Kd.F (Kd.slice 5 (Kd.int .u8)) _ _ Ao17 x10_1.length x10_1 := (Kd.V_at (base := w.heap.size) (Kd.N_V HO_10.out)).2.2; have hcut63 := cut_to (P := Tryd.prog) 32 34 .i64 Tryd.underlying32 hi063 Ao17 x10_1.length co17 (x9_24.length : Int) (of_decide_eq_true (by first | (with_reducible assumption) | assumption)) q63 hroom63; have hr63 := Kd.F_take (m := ((x9_24.length : Int) : Int).toNat) hC63 (by omega); have hy63 : y318.length = ((x9_24.length : Int) : Int).toNat := (by rw [Ny318.out, List.length_take]; omega); rw [← Ny318.out] at hr63; rw [← hy63] at hcut63; have HO322 := Aside0.mk (show Kd.V (Kd.slice 5 (Kd.int .u8)) 34 _ w.heap.size _ (.slice Ao17 y318.length co17) y318 from Kd.V_mk (by omega) hr63); have HC322 := Aside0.mk (show y318.length ≤ co17 from by omega); clear hr63 hC63 hroom63 hi063 hsz63; have KY63 := Aside0.mk hy63; clear hy63; replace q63 := eq_true q63) | ((with_reducible refine gate_callee (f := 15) rfl ?_); refine goesL_ (some 97) rfl rfl Tryd.func15 (by kernel_rfl) rfl #[.slice Ao54 x9_24.length co54, .slice Ao17 y318.length co17] rfl (by (try simp only [List.map_toArray, List.map_cons, List.map_nil]); first | done | rfl | (simp only [List.length_drop, List.length_take]; rfl)) ?_; (with_reducible refine (chirographkeep_sameLists.calls kj24 _ _ x9_24 _ _ y318 t323 _ ?side1 ?side2 ?side3 ?side4 A37.out).mono ?_); (case side1 => repeat (first | exact (Kd.N_reads' HO_9.out).2.2 | (with_reducible refine Kd.C_alloc ?_ _) | (with_reducible refine Kd.C_drewN ?_ _) | (with_reducible refine Kd.C_drew ?_))); (case side2 => exact (Kd.N_reads' HO_9.out).2.1); (case side3 => repeat (first | exact (Kd.V_reads' HO322.out).2.2 | (with_reducible refine Kd.C_alloc ?_ _) | (with_reducible refine Kd.C_drewN ?_ _) | (with_reducible refine Kd.C_drew ?_))); (case side4 => exact (Kd.V_reads' HO322.out).2.1); rintro e w' ⟨rfl, ⟨nd, rfl⟩⟩; refine ⟨_, rfl, ?_⟩))
                            go_ret
                            exact ⟨by first | rfl | (simp [errW_none, errW_some] <;> rfl) | (simp only [← hji8]; first | rfl | (simp [errW_none, errW_some] <;> rfl)) | (simp [*, errW_none, errW_some] <;> rfl), by repeat (first | (with_reducible first | exact HB.out | apply below_alloc | apply pw_below_drewN | apply below_drew1) | exact HB.out)⟩
                        · rw [if_neg c41] at H
                          have c41b0 : decide (0 < (t308.length : Int)) = false := decide_eq_false c41
                          (try (have c41z0_0 := c41b0; simp only [hl10_1] at c41z0_0))
                          have c41b1 : decide (0 < t308.length) = false := decide_eq_false (by omega)
                          (try (have c41z1_0 := c41b1; simp only [hl10_1] at c41z1_0))
                          clear c41
                          exact absurd (Option.some.inj H) (by rw [hr_]; decide)
                      · rw [if_neg c40] at H
                        have c40b0 : (t315 == 0) = false := beq_eq_false_iff_ne.mpr c40
                        (try (have c40z0_0 := c40b0; simp only [hl10_1] at c40z0_0))
                        have c40b1 : (t315 != 0) = true := bne_iff_ne.mpr c40
                        (try (have c40z1_0 := c40b1; simp only [hl10_1] at c40z1_0))
                        exact absurd (Option.some.inj H) (by rw [hr_]; decide)
                    · rw [if_neg c39] at H
                      have c39b0 : (t309 == 0) = false := beq_eq_false_iff_ne.mpr c39
                      (try (have c39z0_0 := c39b0; simp only [hl10_1] at c39z0_0))
                      have c39b1 : (t309 != 0) = true := bne_iff_ne.mpr c39
                      (try (have c39z1_0 := c39b1; simp only [hl10_1] at c39z1_0))
                      exact absurd (Option.some.inj H) (by rw [hr_]; decide)
                  · rw [if_neg c38] at H
                    have c38b0 : (t305 == 0) = false := beq_eq_false_iff_ne.mpr c38
                    (try (have c38z0_0 := c38b0; simp only [hl10_1] at c38z0_0))
                    have c38b1 : (t305 != 0) = true := bne_iff_ne.mpr c38
                    (try (have c38z1_0 := c38b1; simp only [hl10_1] at c38z1_0))
                    exact absurd (Option.some.inj H) (by rw [hr_]; decide)
                · rw [if_neg c36] at H
                  exact absurd H (by simp)
              · rw [if_neg c35] at H
                exact absurd H (by simp)
  · rw [if_neg c7] at H
    exact absurd H (by simp)

/-- THE ONE PURE STATEMENT of chirographkeep_ExtendSound. -/
def chirographkeep_ExtendSound.Pure : Prop := ∀ (l0 : List (S40)) (l1 : List (S40)) (a2 : Int) (l3 : List (List Int)), l0.length ≤ maxLen → l0.length * 40 ≤ 140737488351232 → (∀ x_ ∈ l0, ((Lit.int .i64 x_.f0).wf = true ∧ (Lit.int .i64 x_.f1).wf = true ∧ (Lit.int .i64 x_.f2).wf = true ∧ x_.f3.size ≤ maxLen)) → l1.length ≤ maxLen → l1.length * 40 ≤ 140737488351232 → (∀ x_ ∈ l1, ((Lit.int .i64 x_.f0).wf = true ∧ (Lit.int .i64 x_.f1).wf = true ∧ (Lit.int .i64 x_.f2).wf = true ∧ x_.f3.size ≤ maxLen)) → (Lit.int .i64 a2).wf = true → l3.length ≤ maxLen → l3.length * 24 ≤ 140737488351232 → (∀ x_ ∈ l3, (x_.length ≤ maxLen ∧ ∀ z_ ∈ x_, (Lit.int .u8 z_).wf = true)) → ∃ k, chirographkeep_ExtendSound.f k l0 l1 a2 l3 = some true

end Go.Proofs.YtpgegljlgicpkaaDoor.QExtendSound
