-- WRITTEN BY mkprint.py, a program of this session (out of the translation). Lean checks it.
import Derived.Test.YtblnkfnafbmgnaaQTakesSwapx0
import Derived.Test.YtblnkfnafbmgnaaQTakesSwapx3
import Derived.Test.YtblnkfnafbmgnaaQTakesSwapx9
import Derived.Test.YtblnkfnafbmgnaaQTakesSwapx10
namespace Go.Proofs.Ytblnkfnafbmgnaa.QTakesSwap
open Go.RowKit Go.Proofs.Ytblnkfnafbmgnaa.VPrintWords Go.Proofs.Ytblnkfnafbmgnaa.VPrintLast Go.Proofs.Ytblnkfnafbmgnaa.VPrintMore
attribute [local go_sem] max2_int min2_int max_two min_two max_three min_three max_four min_four   -- for this text's walks alone
set_option linter.unusedVariables false
set_option linter.unusedSimpArgs false

/-! ### chirographkeep_TakesSwap: function 6 -/
def chirographkeep_TakesSwap.f (k : Nat) (l0 : List (S40)) (a1 : Int) (a2 : Int) : Option (Bool) := (chirographkeep_rights.f k l0).bind fun bt252 => (if (bt252.1.length : Int) = 0 then (if bt252.2 = true then ((chirographkeep_rightTells.f k).bind fun t256 => (some t256)) else (some false)) else ((chirographkeep_picked.f a1 (bt252.1.length : Int)).bind fun t257 => (if 0 ≤ t257 then (if t257 < (bt252.1.length : Int) then ((chirographkeep_picked.f a2 (bt252.1.length : Int)).bind fun t259 => (if 0 ≤ t259 then (if t259 < (bt252.1.length : Int) then ((chirographkeep_rightTells.f k).bind fun t263 => (if t263 = true then (if bt252.2 = true then ((chirographkeep_TakesSwap_1.f k bt252.1 ((rd_T28 bt252.1 t257).f0) ((rd_T28 bt252.1 t257).f1) ((rd_T28 bt252.1 t257).f2) ((rd_T28 bt252.1 t257).f3) ((rd_T28 bt252.1 t257).f4)).bind fun t264 => ((chirographkeep_TakesSwap_1.f k t264 ((rd_T28 bt252.1 t259).f0) ((rd_T28 bt252.1 t259).f1) ((rd_T28 bt252.1 t259).f2) ((rd_T28 bt252.1 t259).f3) ((rd_T28 bt252.1 t259).f4)).bind fun t267 => ((chirographkeep_TakesSwap_1.f k bt252.1 ((rd_T28 bt252.1 t259).f0) ((rd_T28 bt252.1 t259).f1) ((rd_T28 bt252.1 t259).f2) ((rd_T28 bt252.1 t259).f3) ((rd_T28 bt252.1 t259).f4)).bind fun t270 => ((chirographkeep_TakesSwap_1.f k t270 ((rd_T28 bt252.1 t257).f0) ((rd_T28 bt252.1 t257).f1) ((rd_T28 bt252.1 t257).f2) ((rd_T28 bt252.1 t257).f3) ((rd_T28 bt252.1 t257).f4)).bind fun t273 => ((chirographkeep_sameGrants.f k t267 t273).bind fun t276 => (some t276)))))) else (some false)) else (some false))) else (none)) else (none))) else (none)) else (none))))
theorem chirographkeep_TakesSwap.mono : ∀ a0 a1 a2 k, LeO (chirographkeep_TakesSwap.f k a0 a1 a2) (chirographkeep_TakesSwap.f (k + 1) a0 a1 a2) := by
 intro a0 a1 a2 k
 unfold chirographkeep_TakesSwap.f
 repeat' first
   | (with_reducible exact chirographkeep_TakesSwap_1.mono _ _ _ _ _ _ _)
   | (with_reducible exact chirographkeep_rightTells.mono _)
   | (with_reducible exact chirographkeep_rights.mono _ _)
   | (with_reducible exact chirographkeep_sameGrants.mono _ _ _)
   | (with_reducible exact LeO.refl _)
   | (with_reducible exact LeO.none _)
   | (with_reducible refine LeO.ite ?_ ?_)
   | (with_reducible refine LeO.bind ?_ (fun _ => ?_))
   | exact chirographkeep_TakesSwap_1.mono _ _ _ _ _ _ _
   | exact chirographkeep_rightTells.mono _
   | exact chirographkeep_rights.mono _ _
   | exact chirographkeep_sameGrants.mono _ _ _
   | exact LeO.none _
   | refine LeO.ite ?_ ?_
   | refine LeO.bind ?_ (fun _ => ?_)
def chirographkeep_TakesSwap.T4 : Bool × List (List Nat × List Nat) := (true, [([], []), ([], []), ([], []), ([2], [2]), ([1, 3], [1, 3]), ([0, 4], [0, 4]), ([5], [5]), ([], []), ([], []), ([], []), ([9], [9]), ([8, 10, 4], [8, 10]), ([7, 11], [7, 11]), ([12], [12]), ([], []), ([], []), ([14, 6, 11, 0, 1, 2, 3, 4, 5, 6, 14, 15], [6, 14]), ([15, 13, 16, 0, 1, 2, 3, 4, 5, 6, 7, 8, 9, 10, 11, 12, 13, 14, 15, 16], [13, 15])])
def chirographkeep_TakesSwap.B4 : List Nat := [0, 0, 0, 4, 14, 31, 63, 0, 0, 0, 512, 1822, 3998, 8094, 0, 0, 53119, 131071]
theorem chirographkeep_TakesSwap.tab4 : rtab .any (opsOf Try.f6 4) = chirographkeep_TakesSwap.T4 := by kernel_rfl
theorem chirographkeep_TakesSwap.bits4 : waitsOk chirographkeep_TakesSwap.T4.2 chirographkeep_TakesSwap.B4 = true := by kernel_rfl
def chirographkeep_TakesSwap.T6 : Bool × List (List Nat × List Nat) := (true, [([], []), ([0, 0], [0]), ([1], [1]), ([1, 2], [1, 2]), ([3, 1], [3]), ([4], [4]), ([4], [4]), ([4], [4]), ([4], [4]), ([6, 7, 8, 4, 4], [4, 6, 7, 8]), ([4], [4]), ([5, 9, 10, 9, 4], [4, 5, 9, 10]), ([4], [4]), ([4], [4]), ([4], [4]), ([4], [4]), ([13, 14, 15, 11, 4], [4, 13, 14, 15]), ([4], [4]), ([12, 16, 17, 16, 4], [4, 12, 16, 17]), ([11, 18, 18, 4], [4, 11, 18]), ([4, 19], [4, 19]), ([20, 19, 0, 1, 2, 3, 4, 5, 6, 7, 8, 9, 10, 11, 12, 13, 14, 15, 16, 17, 18, 19, 20], [20])])
def chirographkeep_TakesSwap.B6 : List Nat := [0, 1, 3, 7, 15, 31, 31, 31, 31, 479, 31, 2047, 31, 31, 31, 31, 61439, 31, 262143, 524287, 1048575, 2097151]
theorem chirographkeep_TakesSwap.tab6 : rtab .any (opsOf Try.f6 6) = chirographkeep_TakesSwap.T6 := by kernel_rfl
theorem chirographkeep_TakesSwap.bits6 : waitsOk chirographkeep_TakesSwap.T6.2 chirographkeep_TakesSwap.B6 = true := by kernel_rfl
set_option maxHeartbeats 8000000 in
set_option maxRecDepth 100000 in
theorem chirographkeep_TakesSwap.calls (k : Nat) (A0 : Option Addr) (c0 : Nat) (l0 : List (S40)) (a1 : Int) (a2 : Int) (r : Bool) (w : World) (hr0 : Kd.C k40 w A0 l0.length l0) (hc0 : l0.length ≤ c0) (h : chirographkeep_TakesSwap.f k l0 a1 a2 = some r) (hr_ : r = true) :
  Calls Try.prog 6 #[.slice A0 l0.length c0, .int .i64 a1, .int .i64 a2] w fun e w' => e = .returned (.bool r) ∧ Below w.heap.size w w' := by
 have hu28 := Try.underlying28
 have HR0 := Aside0.mk hr0
 have HC0 := Aside0.mk hc0
 clear hr0 hc0
 have HB := Aside0.mk (Below.refl w.heap.size w)
 have H : ((chirographkeep_rights.f k l0).bind fun bt252 => (if (bt252.1.length : Int) = 0 then (if bt252.2 = true then ((chirographkeep_rightTells.f k).bind fun t256 => (some t256)) else (some false)) else ((chirographkeep_picked.f a1 (bt252.1.length : Int)).bind fun t257 => (if 0 ≤ t257 then (if t257 < (bt252.1.length : Int) then ((chirographkeep_picked.f a2 (bt252.1.length : Int)).bind fun t259 => (if 0 ≤ t259 then (if t259 < (bt252.1.length : Int) then ((chirographkeep_rightTells.f k).bind fun t263 => (if t263 = true then (if bt252.2 = true then ((chirographkeep_TakesSwap_1.f k bt252.1 ((rd_T28 bt252.1 t257).f0) ((rd_T28 bt252.1 t257).f1) ((rd_T28 bt252.1 t257).f2) ((rd_T28 bt252.1 t257).f3) ((rd_T28 bt252.1 t257).f4)).bind fun t264 => ((chirographkeep_TakesSwap_1.f k t264 ((rd_T28 bt252.1 t259).f0) ((rd_T28 bt252.1 t259).f1) ((rd_T28 bt252.1 t259).f2) ((rd_T28 bt252.1 t259).f3) ((rd_T28 bt252.1 t259).f4)).bind fun t267 => ((chirographkeep_TakesSwap_1.f k bt252.1 ((rd_T28 bt252.1 t259).f0) ((rd_T28 bt252.1 t259).f1) ((rd_T28 bt252.1 t259).f2) ((rd_T28 bt252.1 t259).f3) ((rd_T28 bt252.1 t259).f4)).bind fun t270 => ((chirographkeep_TakesSwap_1.f k t270 ((rd_T28 bt252.1 t257).f0) ((rd_T28 bt252.1 t257).f1) ((rd_T28 bt252.1 t257).f2) ((rd_T28 bt252.1 t257).f3) ((rd_T28 bt252.1 t257).f4)).bind fun t273 => ((chirographkeep_sameGrants.f k t267 t273).bind fun t276 => (some t276)))))) else (some false)) else (some false))) else (none)) else (none))) else (none)) else (none))))) = some r := h
 clear h
 replace H := Option.bind_eq_some_iff.mp H
 obtain ⟨⟨t252, t253⟩, A40, H⟩ := H
 replace H : (if (t252.length : Int) = 0 then (if t253 = true then ((chirographkeep_rightTells.f k).bind fun t256 => (some t256)) else (some false)) else ((chirographkeep_picked.f a1 (t252.length : Int)).bind fun t257 => (if 0 ≤ t257 then (if t257 < (t252.length : Int) then ((chirographkeep_picked.f a2 (t252.length : Int)).bind fun t259 => (if 0 ≤ t259 then (if t259 < (t252.length : Int) then ((chirographkeep_rightTells.f k).bind fun t263 => (if t263 = true then (if t253 = true then ((chirographkeep_TakesSwap_1.f k t252 ((rd_T28 t252 t257).f0) ((rd_T28 t252 t257).f1) ((rd_T28 t252 t257).f2) ((rd_T28 t252 t257).f3) ((rd_T28 t252 t257).f4)).bind fun t264 => ((chirographkeep_TakesSwap_1.f k t264 ((rd_T28 t252 t259).f0) ((rd_T28 t252 t259).f1) ((rd_T28 t252 t259).f2) ((rd_T28 t252 t259).f3) ((rd_T28 t252 t259).f4)).bind fun t267 => ((chirographkeep_TakesSwap_1.f k t252 ((rd_T28 t252 t259).f0) ((rd_T28 t252 t259).f1) ((rd_T28 t252 t259).f2) ((rd_T28 t252 t259).f3) ((rd_T28 t252 t259).f4)).bind fun t270 => ((chirographkeep_TakesSwap_1.f k t270 ((rd_T28 t252 t257).f0) ((rd_T28 t252 t257).f1) ((rd_T28 t252 t257).f2) ((rd_T28 t252 t257).f3) ((rd_T28 t252 t257).f4)).bind fun t273 => ((chirographkeep_sameGrants.f k t267 t273).bind fun t276 => (some t276)))))) else (some false)) else (some false))) else (none)) else (none))) else (none)) else (none)))) = some r := H
 have A4 := Aside0.mk A40
 clear A40
 by_cases c5 : (t252.length : Int) = 0
 ·rw [if_pos c5] at H
  have c5b0 : ((t252.length : Int) == 0) = true := beq_iff_eq.mpr c5
  have c5b1 : ((t252.length : Int) != 0) = false := bne_eq_false_iff_eq.mpr c5
  clear c5
  by_cases c6 : t253 = true
  ·subst c6
   have H1 : ((chirographkeep_rightTells.f k).bind fun t256 => (some t256)) = some r := by rw [if_pos rfl] at H; exact H
   clear H
   have H := H1
   clear H1
   replace H := Option.bind_eq_some_iff.mp H
   obtain ⟨t256, A70, H⟩ := H
   replace H : (some t256) = some r := H
   have A7 := Aside0.mk A70
   clear A70
   obtain rfl := Option.some.inj H
   go_enter Try.func6, Try.ntmps6
   go_wp2_with (first | ((with_reducible refine gate_callee (f := 9) rfl ?_); refine goesL_ (some 14) rfl rfl Try.func9 (by kernel_rfl) rfl #[.slice A0 l0.length c0] rfl (by (try simp only [List.map_toArray, List.map_cons, List.map_nil]); first | done | rfl | (simp only [List.length_drop, List.length_take]; rfl)) ?_; (with_reducible refine (chirographkeep_rights.calls k _ _ l0 t252 true _ ?side1 ?side2 A4.out).mono ?_); (case side1 => repeat (first | exact HR0.out | (with_reducible refine Kd.C_alloc ?_ _) | (with_reducible refine Kd.C_drewN ?_ _) | (with_reducible refine Kd.C_drew ?_))); (case side2 => exact HC0.out); rintro e w8 ⟨v254, rfl, ho0, hb⟩; refine ⟨_, rfl, ?_⟩; have n0_ := Aside0.mk (Kd.R_lower ho0 (below_size (by repeat (first | (with_reducible first | exact HB.out | apply below_alloc | apply pw_below_drewN | apply below_drew1) | exact HB.out)))); have n1_ := Aside0.mk (below_step (by repeat (first | (with_reducible first | exact HB.out | apply below_alloc | apply pw_below_drewN | apply below_drew1) | exact HB.out)) hb); clear HB; have HO255 := n0_; have HB := n1_; clear n0_ n1_; (try clear hb); (try clear hb2); (try clear hk); (try clear hi); (try clear ho0); obtain ⟨Ao9, co9, eo9⟩ := Kd.R_slice HO255.out; subst eo9) | (go_at_call 10; (with_reducible refine (chirographkeep_rightTells.calls k  t256 _ A7.out).mono ?_); rintro e w10 ⟨rfl, hb⟩; have n0_ := Aside0.mk (Kd.R_below (by (with_reducible repeat (first | apply Kd.R_alloc | apply Kd.R_drewN | apply Kd.R_drew)); exact HO255.out) hb); have n1_ := Aside0.mk (below_step (by repeat (first | (with_reducible first | exact HB.out | apply below_alloc | apply pw_below_drewN | apply below_drew1) | exact HB.out)) hb); clear HO255; clear HB; have HO255 := n0_; have HB := n1_; clear n0_ n1_; (try clear hb); (try clear hb2); (try clear hk); (try clear hi)))
   go_ret
   exact ⟨by first | rfl | (simp [errW_none, errW_some] <;> rfl) | (simp [*, errW_none, errW_some] <;> rfl), by repeat (first | (with_reducible first | exact HB.out | apply below_alloc | apply pw_below_drewN | apply below_drew1) | exact HB.out)⟩
  ·replace c6 := Bool.eq_false_iff.mpr c6
   subst c6
   have H1 : (some false) = some r := by rw [if_neg (show ¬ (false = true) by decide)] at H; exact H
   clear H
   have H := H1
   clear H1
   exact absurd (Option.some.inj H) (by rw [hr_]; decide)
 ·rw [if_neg c5] at H
  have c5b0 : ((t252.length : Int) == 0) = false := beq_eq_false_iff_ne.mpr c5
  have c5b1 : ((t252.length : Int) != 0) = true := bne_iff_ne.mpr c5
  have c5b2 : ¬ (t252 = []) := fun h_ => c5 (by rw [h_]; rfl)
  replace H := Option.bind_eq_some_iff.mp H
  obtain ⟨t257, A110, H⟩ := H
  replace H : (if 0 ≤ t257 then (if t257 < (t252.length : Int) then ((chirographkeep_picked.f a2 (t252.length : Int)).bind fun t259 => (if 0 ≤ t259 then (if t259 < (t252.length : Int) then ((chirographkeep_rightTells.f k).bind fun t263 => (if t263 = true then (if t253 = true then ((chirographkeep_TakesSwap_1.f k t252 ((rd_T28 t252 t257).f0) ((rd_T28 t252 t257).f1) ((rd_T28 t252 t257).f2) ((rd_T28 t252 t257).f3) ((rd_T28 t252 t257).f4)).bind fun t264 => ((chirographkeep_TakesSwap_1.f k t264 ((rd_T28 t252 t259).f0) ((rd_T28 t252 t259).f1) ((rd_T28 t252 t259).f2) ((rd_T28 t252 t259).f3) ((rd_T28 t252 t259).f4)).bind fun t267 => ((chirographkeep_TakesSwap_1.f k t252 ((rd_T28 t252 t259).f0) ((rd_T28 t252 t259).f1) ((rd_T28 t252 t259).f2) ((rd_T28 t252 t259).f3) ((rd_T28 t252 t259).f4)).bind fun t270 => ((chirographkeep_TakesSwap_1.f k t270 ((rd_T28 t252 t257).f0) ((rd_T28 t252 t257).f1) ((rd_T28 t252 t257).f2) ((rd_T28 t252 t257).f3) ((rd_T28 t252 t257).f4)).bind fun t273 => ((chirographkeep_sameGrants.f k t267 t273).bind fun t276 => (some t276)))))) else (some false)) else (some false))) else (none)) else (none))) else (none)) else (none)) = some r := H
  have A11 := Aside0.mk A110
  clear A110
  by_cases c12 : 0 ≤ t257
  ·rw [if_pos c12] at H
   have c12b0 : decide (0 ≤ t257) = true := decide_eq_true c12
   clear c12
   by_cases c13 : t257 < (t252.length : Int)
   ·rw [if_pos c13] at H
    have c13b0 : decide (t257 < (t252.length : Int)) = true := decide_eq_true c13
    clear c13
    replace H := Option.bind_eq_some_iff.mp H
    obtain ⟨t259, A140, H⟩ := H
    replace H : (if 0 ≤ t259 then (if t259 < (t252.length : Int) then ((chirographkeep_rightTells.f k).bind fun t263 => (if t263 = true then (if t253 = true then ((chirographkeep_TakesSwap_1.f k t252 ((rd_T28 t252 t257).f0) ((rd_T28 t252 t257).f1) ((rd_T28 t252 t257).f2) ((rd_T28 t252 t257).f3) ((rd_T28 t252 t257).f4)).bind fun t264 => ((chirographkeep_TakesSwap_1.f k t264 ((rd_T28 t252 t259).f0) ((rd_T28 t252 t259).f1) ((rd_T28 t252 t259).f2) ((rd_T28 t252 t259).f3) ((rd_T28 t252 t259).f4)).bind fun t267 => ((chirographkeep_TakesSwap_1.f k t252 ((rd_T28 t252 t259).f0) ((rd_T28 t252 t259).f1) ((rd_T28 t252 t259).f2) ((rd_T28 t252 t259).f3) ((rd_T28 t252 t259).f4)).bind fun t270 => ((chirographkeep_TakesSwap_1.f k t270 ((rd_T28 t252 t257).f0) ((rd_T28 t252 t257).f1) ((rd_T28 t252 t257).f2) ((rd_T28 t252 t257).f3) ((rd_T28 t252 t257).f4)).bind fun t273 => ((chirographkeep_sameGrants.f k t267 t273).bind fun t276 => (some t276)))))) else (some false)) else (some false))) else (none)) else (none)) = some r := H
    have A14 := Aside0.mk A140
    clear A140
    by_cases c15 : 0 ≤ t259
    ·rw [if_pos c15] at H
     have c15b0 : decide (0 ≤ t259) = true := decide_eq_true c15
     clear c15
     by_cases c16 : t259 < (t252.length : Int)
     ·rw [if_pos c16] at H
      have c16b0 : decide (t259 < (t252.length : Int)) = true := decide_eq_true c16
      clear c16
      replace H := Option.bind_eq_some_iff.mp H
      obtain ⟨t263, A170, H⟩ := H
      replace H : (if t263 = true then (if t253 = true then ((chirographkeep_TakesSwap_1.f k t252 ((rd_T28 t252 t257).f0) ((rd_T28 t252 t257).f1) ((rd_T28 t252 t257).f2) ((rd_T28 t252 t257).f3) ((rd_T28 t252 t257).f4)).bind fun t264 => ((chirographkeep_TakesSwap_1.f k t264 ((rd_T28 t252 t259).f0) ((rd_T28 t252 t259).f1) ((rd_T28 t252 t259).f2) ((rd_T28 t252 t259).f3) ((rd_T28 t252 t259).f4)).bind fun t267 => ((chirographkeep_TakesSwap_1.f k t252 ((rd_T28 t252 t259).f0) ((rd_T28 t252 t259).f1) ((rd_T28 t252 t259).f2) ((rd_T28 t252 t259).f3) ((rd_T28 t252 t259).f4)).bind fun t270 => ((chirographkeep_TakesSwap_1.f k t270 ((rd_T28 t252 t257).f0) ((rd_T28 t252 t257).f1) ((rd_T28 t252 t257).f2) ((rd_T28 t252 t257).f3) ((rd_T28 t252 t257).f4)).bind fun t273 => ((chirographkeep_sameGrants.f k t267 t273).bind fun t276 => (some t276)))))) else (some false)) else (some false)) = some r := H
      have A17 := Aside0.mk A170
      clear A170
      by_cases c18 : t263 = true
      ·subst c18
       have H1 : (if t253 = true then ((chirographkeep_TakesSwap_1.f k t252 ((rd_T28 t252 t257).f0) ((rd_T28 t252 t257).f1) ((rd_T28 t252 t257).f2) ((rd_T28 t252 t257).f3) ((rd_T28 t252 t257).f4)).bind fun t264 => ((chirographkeep_TakesSwap_1.f k t264 ((rd_T28 t252 t259).f0) ((rd_T28 t252 t259).f1) ((rd_T28 t252 t259).f2) ((rd_T28 t252 t259).f3) ((rd_T28 t252 t259).f4)).bind fun t267 => ((chirographkeep_TakesSwap_1.f k t252 ((rd_T28 t252 t259).f0) ((rd_T28 t252 t259).f1) ((rd_T28 t252 t259).f2) ((rd_T28 t252 t259).f3) ((rd_T28 t252 t259).f4)).bind fun t270 => ((chirographkeep_TakesSwap_1.f k t270 ((rd_T28 t252 t257).f0) ((rd_T28 t252 t257).f1) ((rd_T28 t252 t257).f2) ((rd_T28 t252 t257).f3) ((rd_T28 t252 t257).f4)).bind fun t273 => ((chirographkeep_sameGrants.f k t267 t273).bind fun t276 => (some t276)))))) else (some false)) = some r := by rw [if_pos rfl] at H; exact H
       clear H
       have H := H1
       clear H1
       by_cases c19 : t253 = true
       ·subst c19
        have H1 : ((chirographkeep_TakesSwap_1.f k t252 ((rd_T28 t252 t257).f0) ((rd_T28 t252 t257).f1) ((rd_T28 t252 t257).f2) ((rd_T28 t252 t257).f3) ((rd_T28 t252 t257).f4)).bind fun t264 => ((chirographkeep_TakesSwap_1.f k t264 ((rd_T28 t252 t259).f0) ((rd_T28 t252 t259).f1) ((rd_T28 t252 t259).f2) ((rd_T28 t252 t259).f3) ((rd_T28 t252 t259).f4)).bind fun t267 => ((chirographkeep_TakesSwap_1.f k t252 ((rd_T28 t252 t259).f0) ((rd_T28 t252 t259).f1) ((rd_T28 t252 t259).f2) ((rd_T28 t252 t259).f3) ((rd_T28 t252 t259).f4)).bind fun t270 => ((chirographkeep_TakesSwap_1.f k t270 ((rd_T28 t252 t257).f0) ((rd_T28 t252 t257).f1) ((rd_T28 t252 t257).f2) ((rd_T28 t252 t257).f3) ((rd_T28 t252 t257).f4)).bind fun t273 => ((chirographkeep_sameGrants.f k t267 t273).bind fun t276 => (some t276)))))) = some r := by rw [if_pos rfl] at H; exact H
        clear H
        have H := H1
        clear H1
        replace H := Option.bind_eq_some_iff.mp H
        obtain ⟨t264, A200, H⟩ := H
        replace H : ((chirographkeep_TakesSwap_1.f k t264 ((rd_T28 t252 t259).f0) ((rd_T28 t252 t259).f1) ((rd_T28 t252 t259).f2) ((rd_T28 t252 t259).f3) ((rd_T28 t252 t259).f4)).bind fun t267 => ((chirographkeep_TakesSwap_1.f k t252 ((rd_T28 t252 t259).f0) ((rd_T28 t252 t259).f1) ((rd_T28 t252 t259).f2) ((rd_T28 t252 t259).f3) ((rd_T28 t252 t259).f4)).bind fun t270 => ((chirographkeep_TakesSwap_1.f k t270 ((rd_T28 t252 t257).f0) ((rd_T28 t252 t257).f1) ((rd_T28 t252 t257).f2) ((rd_T28 t252 t257).f3) ((rd_T28 t252 t257).f4)).bind fun t273 => ((chirographkeep_sameGrants.f k t267 t273).bind fun t276 => (some t276))))) = some r := H
        have A20 := Aside0.mk A200
        clear A200
        replace H := Option.bind_eq_some_iff.mp H
        obtain ⟨t267, A210, H⟩ := H
        replace H : ((chirographkeep_TakesSwap_1.f k t252 ((rd_T28 t252 t259).f0) ((rd_T28 t252 t259).f1) ((rd_T28 t252 t259).f2) ((rd_T28 t252 t259).f3) ((rd_T28 t252 t259).f4)).bind fun t270 => ((chirographkeep_TakesSwap_1.f k t270 ((rd_T28 t252 t257).f0) ((rd_T28 t252 t257).f1) ((rd_T28 t252 t257).f2) ((rd_T28 t252 t257).f3) ((rd_T28 t252 t257).f4)).bind fun t273 => ((chirographkeep_sameGrants.f k t267 t273).bind fun t276 => (some t276)))) = some r := H
        have A21 := Aside0.mk A210
        clear A210
        replace H := Option.bind_eq_some_iff.mp H
        obtain ⟨t270, A220, H⟩ := H
        replace H : ((chirographkeep_TakesSwap_1.f k t270 ((rd_T28 t252 t257).f0) ((rd_T28 t252 t257).f1) ((rd_T28 t252 t257).f2) ((rd_T28 t252 t257).f3) ((rd_T28 t252 t257).f4)).bind fun t273 => ((chirographkeep_sameGrants.f k t267 t273).bind fun t276 => (some t276))) = some r := H
        have A22 := Aside0.mk A220
        clear A220
        replace H := Option.bind_eq_some_iff.mp H
        obtain ⟨t273, A230, H⟩ := H
        replace H : ((chirographkeep_sameGrants.f k t267 t273).bind fun t276 => (some t276)) = some r := H
        have A23 := Aside0.mk A230
        clear A230
        replace H := Option.bind_eq_some_iff.mp H
        obtain ⟨t276, A240, H⟩ := H
        replace H : (some t276) = some r := H
        have A24 := Aside0.mk A240
        clear A240
        obtain rfl := Option.some.inj H
        go_enter Try.func6, Try.ntmps6
        try go_wp2_with (first | ((with_reducible refine gate_callee (f := 9) rfl ?_); refine goesL_ (some 14) rfl rfl Try.func9 (by kernel_rfl) rfl #[.slice A0 l0.length c0] rfl (by (try simp only [List.map_toArray, List.map_cons, List.map_nil]); first | done | rfl | (simp only [List.length_drop, List.length_take]; rfl)) ?_; (with_reducible refine (chirographkeep_rights.calls k _ _ l0 t252 true _ ?side1 ?side2 A4.out).mono ?_); (case side1 => repeat (first | exact HR0.out | (with_reducible refine Kd.C_alloc ?_ _) | (with_reducible refine Kd.C_drewN ?_ _) | (with_reducible refine Kd.C_drew ?_))); (case side2 => exact HC0.out); rintro e w25 ⟨v254, rfl, ho0, hb⟩; refine ⟨_, rfl, ?_⟩; have n0_ := Aside0.mk (Kd.R_lower ho0 (below_size (by repeat (first | (with_reducible first | exact HB.out | apply below_alloc | apply pw_below_drewN | apply below_drew1) | exact HB.out)))); have n1_ := Aside0.mk (below_step (by repeat (first | (with_reducible first | exact HB.out | apply below_alloc | apply pw_below_drewN | apply below_drew1) | exact HB.out)) hb); clear HB; have HO255 := n0_; have HB := n1_; clear n0_ n1_; (try clear hb); (try clear hb2); (try clear hk); (try clear hi); (try clear ho0); obtain ⟨Ao26, co26, eo26⟩ := Kd.R_slice HO255.out; subst eo26))
        have n0_ := Aside0.mk (Kd.R_drew HO255.out)
        have n1_ := Aside0.mk (below_drew1 HB.out)
        clear HO255
        clear HB
        have HO255 := n0_
        have HB := n1_
        clear n0_ n1_
        have p258 : 0 ≤ (t257 : Int) := of_decide_eq_true (by first | (with_reducible assumption) | assumption)
        have q258 : t257 < (t252.length : Int) := of_decide_eq_true (by first | (with_reducible assumption) | assumption)
        obtain ⟨ad258, e258, hx258_0, hx258_1, hx258_2, hx258_3, hx258_4⟩ := at_T28 (Kd.R_reads' HO255.out).2.2 t257 p258 q258
        cases e258
        replace p258 := eq_true p258
        replace q258 := eq_true q258
        have p260 : 0 ≤ (t259 : Int) := of_decide_eq_true (by first | (with_reducible assumption) | assumption)
        have q260 : t259 < (t252.length : Int) := of_decide_eq_true (by first | (with_reducible assumption) | assumption)
        obtain ⟨ad260, e260, hx260_0, hx260_1, hx260_2, hx260_3, hx260_4⟩ := at_T28 (Kd.R_reads' HO255.out).2.2 t259 p260 q260
        obtain rfl : ad258 = ad260 := (by injection e260)
        replace p260 := eq_true p260
        replace q260 := eq_true q260
        refine start_ (n := 18) (S := fun w' => w'.cell? (ad258.add ((t257).toNat * 5)) = some (.int .i64 ((rd_T28 t252 t257).f0)) ∧ w'.cell? ⟨(ad258.add ((t257).toNat * 5)).block, (ad258.add ((t257).toNat * 5)).off + 1, none⟩ = some (.int .i64 ((rd_T28 t252 t257).f1)) ∧ w'.cell? ⟨(ad258.add ((t257).toNat * 5)).block, (ad258.add ((t257).toNat * 5)).off + 2, none⟩ = some (.int .i64 ((rd_T28 t252 t257).f2)) ∧ w'.cell? ⟨(ad258.add ((t257).toNat * 5)).block, (ad258.add ((t257).toNat * 5)).off + 3, none⟩ = some (.int .i64 ((rd_T28 t252 t257).f3)) ∧ w'.cell? ⟨(ad258.add ((t257).toNat * 5)).block, (ad258.add ((t257).toNat * 5)).off + 4, none⟩ = some (.bool ((rd_T28 t252 t257).f4)) ∧ w'.cell? (ad258.add ((t259).toNat * 5)) = some (.int .i64 ((rd_T28 t252 t259).f0)) ∧ w'.cell? ⟨(ad258.add ((t259).toNat * 5)).block, (ad258.add ((t259).toNat * 5)).off + 1, none⟩ = some (.int .i64 ((rd_T28 t252 t259).f1)) ∧ w'.cell? ⟨(ad258.add ((t259).toNat * 5)).block, (ad258.add ((t259).toNat * 5)).off + 2, none⟩ = some (.int .i64 ((rd_T28 t252 t259).f2)) ∧ w'.cell? ⟨(ad258.add ((t259).toNat * 5)).block, (ad258.add ((t259).toNat * 5)).off + 3, none⟩ = some (.int .i64 ((rd_T28 t252 t259).f3)) ∧ w'.cell? ⟨(ad258.add ((t259).toNat * 5)).block, (ad258.add ((t259).toNat * 5)).off + 4, none⟩ = some (.bool ((rd_T28 t252 t259).f4))) (ds := []) #[false, false, false, false, false, false, false, false, false, false, false, false, false, false, false, false, false, false] (by kernel_rfl) rfl rfl ⟨hx258_0, hx258_1, hx258_2, hx258_3, hx258_4, hx260_0, hx260_1, hx260_2, hx260_3, hx260_4⟩ (fun hHeld => ?_); refine with_tabW chirographkeep_TakesSwap.tab4 chirographkeep_TakesSwap.bits4 (fun HT_ HW_ => ?_)
        generalize w25.drew = w27 at HO255 HB hx258_0 hx258_1 hx258_2 hx258_3 hx258_4 hx260_0 hx260_1 hx260_2 hx260_3 hx260_4 hHeld ⊢
        refine pure_ (i := 0) (N := some 24) (v := ?_) (a' := ?_) #[true, false, false, false, false, false, false, false, false, false, false, false, false, false, false, false, false, false] rfl rfl (any_of HT_.out (by kernel_rfl)) (fun _ _ _ h => h) (Or.inl ⟨by rfl, ?_⟩) ?_ ?_
        rotate_left
        ·intro w'
         go_simp
         with_reducible rfl
        rotate_left
        ·simp only [Act.put, List.setIfInBounds_toArray, List.set_cons_zero, List.set_cons_succ, i64_w, i32_w]
         rfl
        refine pure_ (i := 1) (N := some 25) (v := ?_) (a' := ?_) #[true, true, false, false, false, false, false, false, false, false, false, false, false, false, false, false, false, false] rfl rfl (any_of HT_.out (by kernel_rfl)) (fun _ _ _ h => h) (Or.inl ⟨by rfl, ?_⟩) ?_ ?_
        rotate_left
        ·intro w'
         go_simp
         with_reducible rfl
        rotate_left
        ·simp only [Act.put, List.setIfInBounds_toArray, List.set_cons_zero, List.set_cons_succ, i64_w, i32_w]
         rfl
        refine pure_ (i := 2) (N := some 26) (v := ?_) (a' := ?_) #[true, true, true, false, false, false, false, false, false, false, false, false, false, false, false, false, false, false] rfl rfl (any_of HT_.out (by kernel_rfl)) (fun _ _ _ h => h) (Or.inl ⟨by rfl, ?_⟩) ?_ ?_
        rotate_left
        ·intro w'
         go_simp
         with_reducible rfl
        rotate_left
        ·simp only [Act.put, List.setIfInBounds_toArray, List.set_cons_zero, List.set_cons_succ, i64_w, i32_w]
         rfl
        refine pure_ (i := 3) (N := some 27) (v := ?_) (a' := ?_) #[true, true, true, true, false, false, false, false, false, false, false, false, false, false, false, false, false, false] rfl rfl (any_of HT_.out (by kernel_rfl)) (fun _ _ _ h => h) (Or.inl ⟨by rfl, ?_⟩) ?_ ?_
        rotate_left
        ·intro w'
         go_simp
         with_reducible rfl
        rotate_left
        ·simp only [Act.put, List.setIfInBounds_toArray, List.set_cons_zero, List.set_cons_succ, i64_w, i32_w]
         rfl
        refine pure_ (i := 7) (N := some 31) (v := ?_) (a' := ?_) #[true, true, true, true, false, false, false, true, false, false, false, false, false, false, false, false, false, false] rfl rfl (any_of HT_.out (by kernel_rfl)) (fun _ _ _ h => h) (Or.inl ⟨by rfl, ?_⟩) ?_ ?_
        rotate_left
        ·intro w'
         go_simp
         with_reducible rfl
        rotate_left
        ·simp only [Act.put, List.setIfInBounds_toArray, List.set_cons_zero, List.set_cons_succ, i64_w, i32_w]
         rfl
        refine pure_ (i := 8) (N := some 32) (v := ?_) (a' := ?_) #[true, true, true, true, false, false, false, true, true, false, false, false, false, false, false, false, false, false] rfl rfl (any_of HT_.out (by kernel_rfl)) (fun _ _ _ h => h) (Or.inl ⟨by rfl, ?_⟩) ?_ ?_
        rotate_left
        ·intro w'
         go_simp
         with_reducible rfl
        rotate_left
        ·simp only [Act.put, List.setIfInBounds_toArray, List.set_cons_zero, List.set_cons_succ, i64_w, i32_w]
         rfl
        refine pure_ (i := 9) (N := some 33) (v := ?_) (a' := ?_) #[true, true, true, true, false, false, false, true, true, true, false, false, false, false, false, false, false, false] rfl rfl (any_of HT_.out (by kernel_rfl)) (fun _ _ _ h => h) (Or.inl ⟨by rfl, ?_⟩) ?_ ?_
        rotate_left
        ·intro w'
         go_simp
         with_reducible rfl
        rotate_left
        ·simp only [Act.put, List.setIfInBounds_toArray, List.set_cons_zero, List.set_cons_succ, i64_w, i32_w]
         rfl
        refine pure_ (i := 10) (N := some 34) (v := ?_) (a' := ?_) #[true, true, true, true, false, false, false, true, true, true, true, false, false, false, false, false, false, false] rfl rfl (any_of HT_.out (by kernel_rfl)) (fun _ _ _ h => h) (Or.inl ⟨by rfl, ?_⟩) ?_ ?_
        rotate_left
        ·intro w'
         go_simp
         with_reducible rfl
        rotate_left
        ·simp only [Act.put, List.setIfInBounds_toArray, List.set_cons_zero, List.set_cons_succ, i64_w, i32_w]
         rfl
        refine join_ (σ := Nat × Nat) 2 #[true, true, true, true, true, true, true, true, true, true, true, true, true, true, true, true, false, false] (fun s_ => [(28, .int .i64 t257), (35, .int .i64 t259), (9, .pointer (some ⟨s_.1, 0, none⟩)), (10, .pointer (some ⟨s_.2, 0, none⟩)), (29, .pointer (some (ad258.add ((t257).toNat * 5)))), (30, .agg #[.int .i64 ((rd_T28 t252 t257).f0), .int .i64 ((rd_T28 t252 t257).f1), .int .i64 ((rd_T28 t252 t257).f2), .int .i64 ((rd_T28 t252 t257).f3), .bool ((rd_T28 t252 t257).f4)]), (36, .pointer (some (ad258.add ((t259).toNat * 5)))), (37, .agg #[.int .i64 ((rd_T28 t252 t259).f0), .int .i64 ((rd_T28 t252 t259).f1), .int .i64 ((rd_T28 t252 t259).f2), .int .i64 ((rd_T28 t252 t259).f3), .bool ((rd_T28 t252 t259).f4)])]) (fun s_ w' => (w'.cell? (ad258.add ((t257).toNat * 5)) = some (.int .i64 ((rd_T28 t252 t257).f0)) ∧ w'.cell? ⟨(ad258.add ((t257).toNat * 5)).block, (ad258.add ((t257).toNat * 5)).off + 1, none⟩ = some (.int .i64 ((rd_T28 t252 t257).f1)) ∧ w'.cell? ⟨(ad258.add ((t257).toNat * 5)).block, (ad258.add ((t257).toNat * 5)).off + 2, none⟩ = some (.int .i64 ((rd_T28 t252 t257).f2)) ∧ w'.cell? ⟨(ad258.add ((t257).toNat * 5)).block, (ad258.add ((t257).toNat * 5)).off + 3, none⟩ = some (.int .i64 ((rd_T28 t252 t257).f3)) ∧ w'.cell? ⟨(ad258.add ((t257).toNat * 5)).block, (ad258.add ((t257).toNat * 5)).off + 4, none⟩ = some (.bool ((rd_T28 t252 t257).f4)) ∧ w'.cell? (ad258.add ((t259).toNat * 5)) = some (.int .i64 ((rd_T28 t252 t259).f0)) ∧ w'.cell? ⟨(ad258.add ((t259).toNat * 5)).block, (ad258.add ((t259).toNat * 5)).off + 1, none⟩ = some (.int .i64 ((rd_T28 t252 t259).f1)) ∧ w'.cell? ⟨(ad258.add ((t259).toNat * 5)).block, (ad258.add ((t259).toNat * 5)).off + 2, none⟩ = some (.int .i64 ((rd_T28 t252 t259).f2)) ∧ w'.cell? ⟨(ad258.add ((t259).toNat * 5)).block, (ad258.add ((t259).toNat * 5)).off + 3, none⟩ = some (.int .i64 ((rd_T28 t252 t259).f3)) ∧ w'.cell? ⟨(ad258.add ((t259).toNat * 5)).block, (ad258.add ((t259).toNat * 5)).off + 4, none⟩ = some (.bool ((rd_T28 t252 t259).f4))) ∧ (Kd.R k28 28 w' w.heap.size (fun k_ => k_ ≠ s_.1 ∧ k_ ≠ s_.2) (.slice (some ad258) t252.length co26) t252) ∧ (w'.heap[s_.1]? = some (.cells #[.int .i64 0, .int .i64 0, .int .i64 0, .int .i64 0, .bool false] 28 (0, 0))) ∧ (w'.heap[s_.2]? = some (.cells #[.int .i64 0, .int .i64 0, .int .i64 0, .int .i64 0, .bool false] 28 (0, 0))) ∧ (w.heap.size ≤ s_.1) ∧ (w.heap.size ≤ s_.1) ∧ (s_.2 ≠ s_.1) ∧ (s_.1 ≠ s_.2) ∧ (w.heap.size ≤ s_.2) ∧ (w.heap.size ≤ s_.2) ∧ (Below w.heap.size w w')) ?_ ?_
        rotate_left
        ·intro hJ4_11_14_15
         refine join_ (σ := Nat) 3 #[true, true, true, true, true, true, true, true, true, true, true, true, true, true, true, false, false, false] (fun s_ => [(28, .int .i64 t257), (35, .int .i64 t259), (9, .pointer (some ⟨s_, 0, none⟩)), (29, .pointer (some (ad258.add ((t257).toNat * 5)))), (30, .agg #[.int .i64 ((rd_T28 t252 t257).f0), .int .i64 ((rd_T28 t252 t257).f1), .int .i64 ((rd_T28 t252 t257).f2), .int .i64 ((rd_T28 t252 t257).f3), .bool ((rd_T28 t252 t257).f4)]), (36, .pointer (some (ad258.add ((t259).toNat * 5)))), (37, .agg #[.int .i64 ((rd_T28 t252 t259).f0), .int .i64 ((rd_T28 t252 t259).f1), .int .i64 ((rd_T28 t252 t259).f2), .int .i64 ((rd_T28 t252 t259).f3), .bool ((rd_T28 t252 t259).f4)])]) (fun s_ w' => (w'.cell? (ad258.add ((t257).toNat * 5)) = some (.int .i64 ((rd_T28 t252 t257).f0)) ∧ w'.cell? ⟨(ad258.add ((t257).toNat * 5)).block, (ad258.add ((t257).toNat * 5)).off + 1, none⟩ = some (.int .i64 ((rd_T28 t252 t257).f1)) ∧ w'.cell? ⟨(ad258.add ((t257).toNat * 5)).block, (ad258.add ((t257).toNat * 5)).off + 2, none⟩ = some (.int .i64 ((rd_T28 t252 t257).f2)) ∧ w'.cell? ⟨(ad258.add ((t257).toNat * 5)).block, (ad258.add ((t257).toNat * 5)).off + 3, none⟩ = some (.int .i64 ((rd_T28 t252 t257).f3)) ∧ w'.cell? ⟨(ad258.add ((t257).toNat * 5)).block, (ad258.add ((t257).toNat * 5)).off + 4, none⟩ = some (.bool ((rd_T28 t252 t257).f4)) ∧ w'.cell? (ad258.add ((t259).toNat * 5)) = some (.int .i64 ((rd_T28 t252 t259).f0)) ∧ w'.cell? ⟨(ad258.add ((t259).toNat * 5)).block, (ad258.add ((t259).toNat * 5)).off + 1, none⟩ = some (.int .i64 ((rd_T28 t252 t259).f1)) ∧ w'.cell? ⟨(ad258.add ((t259).toNat * 5)).block, (ad258.add ((t259).toNat * 5)).off + 2, none⟩ = some (.int .i64 ((rd_T28 t252 t259).f2)) ∧ w'.cell? ⟨(ad258.add ((t259).toNat * 5)).block, (ad258.add ((t259).toNat * 5)).off + 3, none⟩ = some (.int .i64 ((rd_T28 t252 t259).f3)) ∧ w'.cell? ⟨(ad258.add ((t259).toNat * 5)).block, (ad258.add ((t259).toNat * 5)).off + 4, none⟩ = some (.bool ((rd_T28 t252 t259).f4))) ∧ (Kd.R k28 28 w' w.heap.size (fun k_ => k_ ≠ s_) (.slice (some ad258) t252.length co26) t252) ∧ (w'.heap[s_]? = some (.cells #[.int .i64 0, .int .i64 0, .int .i64 0, .int .i64 0, .bool false] 28 (0, 0))) ∧ (w.heap.size ≤ s_) ∧ (w.heap.size ≤ s_) ∧ (Below w.heap.size w w')) ?_ ?_
         rotate_left
         ·intro hJ4_11_14
          refine join_ (σ := Nat) 3 #[true, true, true, true, true, true, true, true, true, true, true, true, true, true, false, true, false, false] (fun s_ => [(28, .int .i64 t257), (35, .int .i64 t259), (10, .pointer (some ⟨s_, 0, none⟩)), (29, .pointer (some (ad258.add ((t257).toNat * 5)))), (30, .agg #[.int .i64 ((rd_T28 t252 t257).f0), .int .i64 ((rd_T28 t252 t257).f1), .int .i64 ((rd_T28 t252 t257).f2), .int .i64 ((rd_T28 t252 t257).f3), .bool ((rd_T28 t252 t257).f4)]), (36, .pointer (some (ad258.add ((t259).toNat * 5)))), (37, .agg #[.int .i64 ((rd_T28 t252 t259).f0), .int .i64 ((rd_T28 t252 t259).f1), .int .i64 ((rd_T28 t252 t259).f2), .int .i64 ((rd_T28 t252 t259).f3), .bool ((rd_T28 t252 t259).f4)])]) (fun s_ w' => (w'.cell? (ad258.add ((t257).toNat * 5)) = some (.int .i64 ((rd_T28 t252 t257).f0)) ∧ w'.cell? ⟨(ad258.add ((t257).toNat * 5)).block, (ad258.add ((t257).toNat * 5)).off + 1, none⟩ = some (.int .i64 ((rd_T28 t252 t257).f1)) ∧ w'.cell? ⟨(ad258.add ((t257).toNat * 5)).block, (ad258.add ((t257).toNat * 5)).off + 2, none⟩ = some (.int .i64 ((rd_T28 t252 t257).f2)) ∧ w'.cell? ⟨(ad258.add ((t257).toNat * 5)).block, (ad258.add ((t257).toNat * 5)).off + 3, none⟩ = some (.int .i64 ((rd_T28 t252 t257).f3)) ∧ w'.cell? ⟨(ad258.add ((t257).toNat * 5)).block, (ad258.add ((t257).toNat * 5)).off + 4, none⟩ = some (.bool ((rd_T28 t252 t257).f4)) ∧ w'.cell? (ad258.add ((t259).toNat * 5)) = some (.int .i64 ((rd_T28 t252 t259).f0)) ∧ w'.cell? ⟨(ad258.add ((t259).toNat * 5)).block, (ad258.add ((t259).toNat * 5)).off + 1, none⟩ = some (.int .i64 ((rd_T28 t252 t259).f1)) ∧ w'.cell? ⟨(ad258.add ((t259).toNat * 5)).block, (ad258.add ((t259).toNat * 5)).off + 2, none⟩ = some (.int .i64 ((rd_T28 t252 t259).f2)) ∧ w'.cell? ⟨(ad258.add ((t259).toNat * 5)).block, (ad258.add ((t259).toNat * 5)).off + 3, none⟩ = some (.int .i64 ((rd_T28 t252 t259).f3)) ∧ w'.cell? ⟨(ad258.add ((t259).toNat * 5)).block, (ad258.add ((t259).toNat * 5)).off + 4, none⟩ = some (.bool ((rd_T28 t252 t259).f4))) ∧ (Kd.R k28 28 w' w.heap.size (fun k_ => k_ ≠ s_) (.slice (some ad258) t252.length co26) t252) ∧ (w'.heap[s_]? = some (.cells #[.int .i64 0, .int .i64 0, .int .i64 0, .int .i64 0, .bool false] 28 (0, 0))) ∧ (w.heap.size ≤ s_) ∧ (w.heap.size ≤ s_) ∧ (Below w.heap.size w w')) ?_ ?_
          rotate_left
          ·intro hJ4_11_15
           refine join_ (σ := Nat × Nat) 5 #[true, true, true, true, true, true, true, true, true, true, true, false, false, false, true, true, false, false] (fun s_ => [(28, .int .i64 t257), (9, .pointer (some ⟨s_.1, 0, none⟩)), (10, .pointer (some ⟨s_.2, 0, none⟩)), (29, .pointer (some (ad258.add ((t257).toNat * 5)))), (30, .agg #[.int .i64 ((rd_T28 t252 t257).f0), .int .i64 ((rd_T28 t252 t257).f1), .int .i64 ((rd_T28 t252 t257).f2), .int .i64 ((rd_T28 t252 t257).f3), .bool ((rd_T28 t252 t257).f4)])]) (fun s_ w' => (w'.cell? (ad258.add ((t257).toNat * 5)) = some (.int .i64 ((rd_T28 t252 t257).f0)) ∧ w'.cell? ⟨(ad258.add ((t257).toNat * 5)).block, (ad258.add ((t257).toNat * 5)).off + 1, none⟩ = some (.int .i64 ((rd_T28 t252 t257).f1)) ∧ w'.cell? ⟨(ad258.add ((t257).toNat * 5)).block, (ad258.add ((t257).toNat * 5)).off + 2, none⟩ = some (.int .i64 ((rd_T28 t252 t257).f2)) ∧ w'.cell? ⟨(ad258.add ((t257).toNat * 5)).block, (ad258.add ((t257).toNat * 5)).off + 3, none⟩ = some (.int .i64 ((rd_T28 t252 t257).f3)) ∧ w'.cell? ⟨(ad258.add ((t257).toNat * 5)).block, (ad258.add ((t257).toNat * 5)).off + 4, none⟩ = some (.bool ((rd_T28 t252 t257).f4)) ∧ w'.cell? (ad258.add ((t259).toNat * 5)) = some (.int .i64 ((rd_T28 t252 t259).f0)) ∧ w'.cell? ⟨(ad258.add ((t259).toNat * 5)).block, (ad258.add ((t259).toNat * 5)).off + 1, none⟩ = some (.int .i64 ((rd_T28 t252 t259).f1)) ∧ w'.cell? ⟨(ad258.add ((t259).toNat * 5)).block, (ad258.add ((t259).toNat * 5)).off + 2, none⟩ = some (.int .i64 ((rd_T28 t252 t259).f2)) ∧ w'.cell? ⟨(ad258.add ((t259).toNat * 5)).block, (ad258.add ((t259).toNat * 5)).off + 3, none⟩ = some (.int .i64 ((rd_T28 t252 t259).f3)) ∧ w'.cell? ⟨(ad258.add ((t259).toNat * 5)).block, (ad258.add ((t259).toNat * 5)).off + 4, none⟩ = some (.bool ((rd_T28 t252 t259).f4))) ∧ (Kd.R k28 28 w' w.heap.size (fun k_ => k_ ≠ s_.1 ∧ k_ ≠ s_.2) (.slice (some ad258) t252.length co26) t252) ∧ (w'.heap[s_.1]? = some (.cells #[.int .i64 0, .int .i64 0, .int .i64 0, .int .i64 0, .bool false] 28 (0, 0))) ∧ (w'.heap[s_.2]? = some (.cells #[.int .i64 0, .int .i64 0, .int .i64 0, .int .i64 0, .bool false] 28 (0, 0))) ∧ (w.heap.size ≤ s_.1) ∧ (w.heap.size ≤ s_.1) ∧ (s_.2 ≠ s_.1) ∧ (s_.1 ≠ s_.2) ∧ (w.heap.size ≤ s_.2) ∧ (w.heap.size ≤ s_.2) ∧ (Below w.heap.size w w')) ?_ ?_
           rotate_left
           ·intro hJ4_14_15
            refine join_ (σ := Unit) 4 #[true, true, true, true, true, true, true, true, true, true, true, true, true, true, false, false, false, false] (fun s_ => [(28, .int .i64 t257), (35, .int .i64 t259), (29, .pointer (some (ad258.add ((t257).toNat * 5)))), (30, .agg #[.int .i64 ((rd_T28 t252 t257).f0), .int .i64 ((rd_T28 t252 t257).f1), .int .i64 ((rd_T28 t252 t257).f2), .int .i64 ((rd_T28 t252 t257).f3), .bool ((rd_T28 t252 t257).f4)]), (36, .pointer (some (ad258.add ((t259).toNat * 5)))), (37, .agg #[.int .i64 ((rd_T28 t252 t259).f0), .int .i64 ((rd_T28 t252 t259).f1), .int .i64 ((rd_T28 t252 t259).f2), .int .i64 ((rd_T28 t252 t259).f3), .bool ((rd_T28 t252 t259).f4)])]) (fun s_ w' => (w'.cell? (ad258.add ((t257).toNat * 5)) = some (.int .i64 ((rd_T28 t252 t257).f0)) ∧ w'.cell? ⟨(ad258.add ((t257).toNat * 5)).block, (ad258.add ((t257).toNat * 5)).off + 1, none⟩ = some (.int .i64 ((rd_T28 t252 t257).f1)) ∧ w'.cell? ⟨(ad258.add ((t257).toNat * 5)).block, (ad258.add ((t257).toNat * 5)).off + 2, none⟩ = some (.int .i64 ((rd_T28 t252 t257).f2)) ∧ w'.cell? ⟨(ad258.add ((t257).toNat * 5)).block, (ad258.add ((t257).toNat * 5)).off + 3, none⟩ = some (.int .i64 ((rd_T28 t252 t257).f3)) ∧ w'.cell? ⟨(ad258.add ((t257).toNat * 5)).block, (ad258.add ((t257).toNat * 5)).off + 4, none⟩ = some (.bool ((rd_T28 t252 t257).f4)) ∧ w'.cell? (ad258.add ((t259).toNat * 5)) = some (.int .i64 ((rd_T28 t252 t259).f0)) ∧ w'.cell? ⟨(ad258.add ((t259).toNat * 5)).block, (ad258.add ((t259).toNat * 5)).off + 1, none⟩ = some (.int .i64 ((rd_T28 t252 t259).f1)) ∧ w'.cell? ⟨(ad258.add ((t259).toNat * 5)).block, (ad258.add ((t259).toNat * 5)).off + 2, none⟩ = some (.int .i64 ((rd_T28 t252 t259).f2)) ∧ w'.cell? ⟨(ad258.add ((t259).toNat * 5)).block, (ad258.add ((t259).toNat * 5)).off + 3, none⟩ = some (.int .i64 ((rd_T28 t252 t259).f3)) ∧ w'.cell? ⟨(ad258.add ((t259).toNat * 5)).block, (ad258.add ((t259).toNat * 5)).off + 4, none⟩ = some (.bool ((rd_T28 t252 t259).f4))) ∧ (Kd.R k28 28 w' w.heap.size (fun _ => True) (.slice (some ad258) t252.length co26) t252) ∧ (Below w.heap.size w w')) ?_ ?_
            rotate_left
            ·intro hJ4_11
             refine join_ (σ := Nat) 6 #[true, true, true, true, true, true, true, true, true, true, true, false, false, false, true, false, false, false] (fun s_ => [(28, .int .i64 t257), (9, .pointer (some ⟨s_, 0, none⟩)), (29, .pointer (some (ad258.add ((t257).toNat * 5)))), (30, .agg #[.int .i64 ((rd_T28 t252 t257).f0), .int .i64 ((rd_T28 t252 t257).f1), .int .i64 ((rd_T28 t252 t257).f2), .int .i64 ((rd_T28 t252 t257).f3), .bool ((rd_T28 t252 t257).f4)])]) (fun s_ w' => (w'.cell? (ad258.add ((t257).toNat * 5)) = some (.int .i64 ((rd_T28 t252 t257).f0)) ∧ w'.cell? ⟨(ad258.add ((t257).toNat * 5)).block, (ad258.add ((t257).toNat * 5)).off + 1, none⟩ = some (.int .i64 ((rd_T28 t252 t257).f1)) ∧ w'.cell? ⟨(ad258.add ((t257).toNat * 5)).block, (ad258.add ((t257).toNat * 5)).off + 2, none⟩ = some (.int .i64 ((rd_T28 t252 t257).f2)) ∧ w'.cell? ⟨(ad258.add ((t257).toNat * 5)).block, (ad258.add ((t257).toNat * 5)).off + 3, none⟩ = some (.int .i64 ((rd_T28 t252 t257).f3)) ∧ w'.cell? ⟨(ad258.add ((t257).toNat * 5)).block, (ad258.add ((t257).toNat * 5)).off + 4, none⟩ = some (.bool ((rd_T28 t252 t257).f4)) ∧ w'.cell? (ad258.add ((t259).toNat * 5)) = some (.int .i64 ((rd_T28 t252 t259).f0)) ∧ w'.cell? ⟨(ad258.add ((t259).toNat * 5)).block, (ad258.add ((t259).toNat * 5)).off + 1, none⟩ = some (.int .i64 ((rd_T28 t252 t259).f1)) ∧ w'.cell? ⟨(ad258.add ((t259).toNat * 5)).block, (ad258.add ((t259).toNat * 5)).off + 2, none⟩ = some (.int .i64 ((rd_T28 t252 t259).f2)) ∧ w'.cell? ⟨(ad258.add ((t259).toNat * 5)).block, (ad258.add ((t259).toNat * 5)).off + 3, none⟩ = some (.int .i64 ((rd_T28 t252 t259).f3)) ∧ w'.cell? ⟨(ad258.add ((t259).toNat * 5)).block, (ad258.add ((t259).toNat * 5)).off + 4, none⟩ = some (.bool ((rd_T28 t252 t259).f4))) ∧ (Kd.R k28 28 w' w.heap.size (fun k_ => k_ ≠ s_) (.slice (some ad258) t252.length co26) t252) ∧ (w'.heap[s_]? = some (.cells #[.int .i64 0, .int .i64 0, .int .i64 0, .int .i64 0, .bool false] 28 (0, 0))) ∧ (w.heap.size ≤ s_) ∧ (w.heap.size ≤ s_) ∧ (Below w.heap.size w w')) ?_ ?_
             rotate_left
             ·intro hJ4_14
              refine join_ (σ := Nat) 6 #[true, true, true, true, true, true, true, true, true, true, true, false, false, false, false, true, false, false] (fun s_ => [(28, .int .i64 t257), (10, .pointer (some ⟨s_, 0, none⟩)), (29, .pointer (some (ad258.add ((t257).toNat * 5)))), (30, .agg #[.int .i64 ((rd_T28 t252 t257).f0), .int .i64 ((rd_T28 t252 t257).f1), .int .i64 ((rd_T28 t252 t257).f2), .int .i64 ((rd_T28 t252 t257).f3), .bool ((rd_T28 t252 t257).f4)])]) (fun s_ w' => (w'.cell? (ad258.add ((t257).toNat * 5)) = some (.int .i64 ((rd_T28 t252 t257).f0)) ∧ w'.cell? ⟨(ad258.add ((t257).toNat * 5)).block, (ad258.add ((t257).toNat * 5)).off + 1, none⟩ = some (.int .i64 ((rd_T28 t252 t257).f1)) ∧ w'.cell? ⟨(ad258.add ((t257).toNat * 5)).block, (ad258.add ((t257).toNat * 5)).off + 2, none⟩ = some (.int .i64 ((rd_T28 t252 t257).f2)) ∧ w'.cell? ⟨(ad258.add ((t257).toNat * 5)).block, (ad258.add ((t257).toNat * 5)).off + 3, none⟩ = some (.int .i64 ((rd_T28 t252 t257).f3)) ∧ w'.cell? ⟨(ad258.add ((t257).toNat * 5)).block, (ad258.add ((t257).toNat * 5)).off + 4, none⟩ = some (.bool ((rd_T28 t252 t257).f4)) ∧ w'.cell? (ad258.add ((t259).toNat * 5)) = some (.int .i64 ((rd_T28 t252 t259).f0)) ∧ w'.cell? ⟨(ad258.add ((t259).toNat * 5)).block, (ad258.add ((t259).toNat * 5)).off + 1, none⟩ = some (.int .i64 ((rd_T28 t252 t259).f1)) ∧ w'.cell? ⟨(ad258.add ((t259).toNat * 5)).block, (ad258.add ((t259).toNat * 5)).off + 2, none⟩ = some (.int .i64 ((rd_T28 t252 t259).f2)) ∧ w'.cell? ⟨(ad258.add ((t259).toNat * 5)).block, (ad258.add ((t259).toNat * 5)).off + 3, none⟩ = some (.int .i64 ((rd_T28 t252 t259).f3)) ∧ w'.cell? ⟨(ad258.add ((t259).toNat * 5)).block, (ad258.add ((t259).toNat * 5)).off + 4, none⟩ = some (.bool ((rd_T28 t252 t259).f4))) ∧ (Kd.R k28 28 w' w.heap.size (fun k_ => k_ ≠ s_) (.slice (some ad258) t252.length co26) t252) ∧ (w'.heap[s_]? = some (.cells #[.int .i64 0, .int .i64 0, .int .i64 0, .int .i64 0, .bool false] 28 (0, 0))) ∧ (w.heap.size ≤ s_) ∧ (w.heap.size ≤ s_) ∧ (Below w.heap.size w w')) ?_ ?_
              rotate_left
              ·intro hJ4_15
               refine join_ (σ := Nat × Nat) 8 #[true, true, true, true, false, false, false, true, true, true, true, false, false, false, true, true, false, false] (fun s_ => [(9, .pointer (some ⟨s_.1, 0, none⟩)), (10, .pointer (some ⟨s_.2, 0, none⟩))]) (fun s_ w' => (w'.cell? (ad258.add ((t257).toNat * 5)) = some (.int .i64 ((rd_T28 t252 t257).f0)) ∧ w'.cell? ⟨(ad258.add ((t257).toNat * 5)).block, (ad258.add ((t257).toNat * 5)).off + 1, none⟩ = some (.int .i64 ((rd_T28 t252 t257).f1)) ∧ w'.cell? ⟨(ad258.add ((t257).toNat * 5)).block, (ad258.add ((t257).toNat * 5)).off + 2, none⟩ = some (.int .i64 ((rd_T28 t252 t257).f2)) ∧ w'.cell? ⟨(ad258.add ((t257).toNat * 5)).block, (ad258.add ((t257).toNat * 5)).off + 3, none⟩ = some (.int .i64 ((rd_T28 t252 t257).f3)) ∧ w'.cell? ⟨(ad258.add ((t257).toNat * 5)).block, (ad258.add ((t257).toNat * 5)).off + 4, none⟩ = some (.bool ((rd_T28 t252 t257).f4)) ∧ w'.cell? (ad258.add ((t259).toNat * 5)) = some (.int .i64 ((rd_T28 t252 t259).f0)) ∧ w'.cell? ⟨(ad258.add ((t259).toNat * 5)).block, (ad258.add ((t259).toNat * 5)).off + 1, none⟩ = some (.int .i64 ((rd_T28 t252 t259).f1)) ∧ w'.cell? ⟨(ad258.add ((t259).toNat * 5)).block, (ad258.add ((t259).toNat * 5)).off + 2, none⟩ = some (.int .i64 ((rd_T28 t252 t259).f2)) ∧ w'.cell? ⟨(ad258.add ((t259).toNat * 5)).block, (ad258.add ((t259).toNat * 5)).off + 3, none⟩ = some (.int .i64 ((rd_T28 t252 t259).f3)) ∧ w'.cell? ⟨(ad258.add ((t259).toNat * 5)).block, (ad258.add ((t259).toNat * 5)).off + 4, none⟩ = some (.bool ((rd_T28 t252 t259).f4))) ∧ (Kd.R k28 28 w' w.heap.size (fun k_ => k_ ≠ s_.1 ∧ k_ ≠ s_.2) (.slice (some ad258) t252.length co26) t252) ∧ (w'.heap[s_.1]? = some (.cells #[.int .i64 0, .int .i64 0, .int .i64 0, .int .i64 0, .bool false] 28 (0, 0))) ∧ (w'.heap[s_.2]? = some (.cells #[.int .i64 0, .int .i64 0, .int .i64 0, .int .i64 0, .bool false] 28 (0, 0))) ∧ (w.heap.size ≤ s_.1) ∧ (w.heap.size ≤ s_.1) ∧ (s_.2 ≠ s_.1) ∧ (s_.1 ≠ s_.2) ∧ (w.heap.size ≤ s_.2) ∧ (w.heap.size ≤ s_.2) ∧ (Below w.heap.size w w')) ?_ ?_
               rotate_left
               ·intro hJ14_15
                refine join_ (σ := Unit) 7 #[true, true, true, true, true, true, true, true, true, true, true, false, false, false, false, false, false, false] (fun s_ => [(28, .int .i64 t257), (29, .pointer (some (ad258.add ((t257).toNat * 5)))), (30, .agg #[.int .i64 ((rd_T28 t252 t257).f0), .int .i64 ((rd_T28 t252 t257).f1), .int .i64 ((rd_T28 t252 t257).f2), .int .i64 ((rd_T28 t252 t257).f3), .bool ((rd_T28 t252 t257).f4)])]) (fun s_ w' => (w'.cell? (ad258.add ((t257).toNat * 5)) = some (.int .i64 ((rd_T28 t252 t257).f0)) ∧ w'.cell? ⟨(ad258.add ((t257).toNat * 5)).block, (ad258.add ((t257).toNat * 5)).off + 1, none⟩ = some (.int .i64 ((rd_T28 t252 t257).f1)) ∧ w'.cell? ⟨(ad258.add ((t257).toNat * 5)).block, (ad258.add ((t257).toNat * 5)).off + 2, none⟩ = some (.int .i64 ((rd_T28 t252 t257).f2)) ∧ w'.cell? ⟨(ad258.add ((t257).toNat * 5)).block, (ad258.add ((t257).toNat * 5)).off + 3, none⟩ = some (.int .i64 ((rd_T28 t252 t257).f3)) ∧ w'.cell? ⟨(ad258.add ((t257).toNat * 5)).block, (ad258.add ((t257).toNat * 5)).off + 4, none⟩ = some (.bool ((rd_T28 t252 t257).f4)) ∧ w'.cell? (ad258.add ((t259).toNat * 5)) = some (.int .i64 ((rd_T28 t252 t259).f0)) ∧ w'.cell? ⟨(ad258.add ((t259).toNat * 5)).block, (ad258.add ((t259).toNat * 5)).off + 1, none⟩ = some (.int .i64 ((rd_T28 t252 t259).f1)) ∧ w'.cell? ⟨(ad258.add ((t259).toNat * 5)).block, (ad258.add ((t259).toNat * 5)).off + 2, none⟩ = some (.int .i64 ((rd_T28 t252 t259).f2)) ∧ w'.cell? ⟨(ad258.add ((t259).toNat * 5)).block, (ad258.add ((t259).toNat * 5)).off + 3, none⟩ = some (.int .i64 ((rd_T28 t252 t259).f3)) ∧ w'.cell? ⟨(ad258.add ((t259).toNat * 5)).block, (ad258.add ((t259).toNat * 5)).off + 4, none⟩ = some (.bool ((rd_T28 t252 t259).f4))) ∧ (Kd.R k28 28 w' w.heap.size (fun _ => True) (.slice (some ad258) t252.length co26) t252) ∧ (Below w.heap.size w w')) ?_ ?_
                rotate_left
                ·intro hJ4
                 refine join_ (σ := Nat) 9 #[true, true, true, true, false, false, false, true, true, true, true, false, false, false, true, false, false, false] (fun s_ => [(9, .pointer (some ⟨s_, 0, none⟩))]) (fun s_ w' => (w'.cell? (ad258.add ((t257).toNat * 5)) = some (.int .i64 ((rd_T28 t252 t257).f0)) ∧ w'.cell? ⟨(ad258.add ((t257).toNat * 5)).block, (ad258.add ((t257).toNat * 5)).off + 1, none⟩ = some (.int .i64 ((rd_T28 t252 t257).f1)) ∧ w'.cell? ⟨(ad258.add ((t257).toNat * 5)).block, (ad258.add ((t257).toNat * 5)).off + 2, none⟩ = some (.int .i64 ((rd_T28 t252 t257).f2)) ∧ w'.cell? ⟨(ad258.add ((t257).toNat * 5)).block, (ad258.add ((t257).toNat * 5)).off + 3, none⟩ = some (.int .i64 ((rd_T28 t252 t257).f3)) ∧ w'.cell? ⟨(ad258.add ((t257).toNat * 5)).block, (ad258.add ((t257).toNat * 5)).off + 4, none⟩ = some (.bool ((rd_T28 t252 t257).f4)) ∧ w'.cell? (ad258.add ((t259).toNat * 5)) = some (.int .i64 ((rd_T28 t252 t259).f0)) ∧ w'.cell? ⟨(ad258.add ((t259).toNat * 5)).block, (ad258.add ((t259).toNat * 5)).off + 1, none⟩ = some (.int .i64 ((rd_T28 t252 t259).f1)) ∧ w'.cell? ⟨(ad258.add ((t259).toNat * 5)).block, (ad258.add ((t259).toNat * 5)).off + 2, none⟩ = some (.int .i64 ((rd_T28 t252 t259).f2)) ∧ w'.cell? ⟨(ad258.add ((t259).toNat * 5)).block, (ad258.add ((t259).toNat * 5)).off + 3, none⟩ = some (.int .i64 ((rd_T28 t252 t259).f3)) ∧ w'.cell? ⟨(ad258.add ((t259).toNat * 5)).block, (ad258.add ((t259).toNat * 5)).off + 4, none⟩ = some (.bool ((rd_T28 t252 t259).f4))) ∧ (Kd.R k28 28 w' w.heap.size (fun k_ => k_ ≠ s_) (.slice (some ad258) t252.length co26) t252) ∧ (w'.heap[s_]? = some (.cells #[.int .i64 0, .int .i64 0, .int .i64 0, .int .i64 0, .bool false] 28 (0, 0))) ∧ (w.heap.size ≤ s_) ∧ (w.heap.size ≤ s_) ∧ (Below w.heap.size w w')) ?_ ?_
                 rotate_left
                 ·intro hJ14
                  refine join_ (σ := Nat) 9 #[true, true, true, true, false, false, false, true, true, true, true, false, false, false, false, true, false, false] (fun s_ => [(10, .pointer (some ⟨s_, 0, none⟩))]) (fun s_ w' => (w'.cell? (ad258.add ((t257).toNat * 5)) = some (.int .i64 ((rd_T28 t252 t257).f0)) ∧ w'.cell? ⟨(ad258.add ((t257).toNat * 5)).block, (ad258.add ((t257).toNat * 5)).off + 1, none⟩ = some (.int .i64 ((rd_T28 t252 t257).f1)) ∧ w'.cell? ⟨(ad258.add ((t257).toNat * 5)).block, (ad258.add ((t257).toNat * 5)).off + 2, none⟩ = some (.int .i64 ((rd_T28 t252 t257).f2)) ∧ w'.cell? ⟨(ad258.add ((t257).toNat * 5)).block, (ad258.add ((t257).toNat * 5)).off + 3, none⟩ = some (.int .i64 ((rd_T28 t252 t257).f3)) ∧ w'.cell? ⟨(ad258.add ((t257).toNat * 5)).block, (ad258.add ((t257).toNat * 5)).off + 4, none⟩ = some (.bool ((rd_T28 t252 t257).f4)) ∧ w'.cell? (ad258.add ((t259).toNat * 5)) = some (.int .i64 ((rd_T28 t252 t259).f0)) ∧ w'.cell? ⟨(ad258.add ((t259).toNat * 5)).block, (ad258.add ((t259).toNat * 5)).off + 1, none⟩ = some (.int .i64 ((rd_T28 t252 t259).f1)) ∧ w'.cell? ⟨(ad258.add ((t259).toNat * 5)).block, (ad258.add ((t259).toNat * 5)).off + 2, none⟩ = some (.int .i64 ((rd_T28 t252 t259).f2)) ∧ w'.cell? ⟨(ad258.add ((t259).toNat * 5)).block, (ad258.add ((t259).toNat * 5)).off + 3, none⟩ = some (.int .i64 ((rd_T28 t252 t259).f3)) ∧ w'.cell? ⟨(ad258.add ((t259).toNat * 5)).block, (ad258.add ((t259).toNat * 5)).off + 4, none⟩ = some (.bool ((rd_T28 t252 t259).f4))) ∧ (Kd.R k28 28 w' w.heap.size (fun k_ => k_ ≠ s_) (.slice (some ad258) t252.length co26) t252) ∧ (w'.heap[s_]? = some (.cells #[.int .i64 0, .int .i64 0, .int .i64 0, .int .i64 0, .bool false] 28 (0, 0))) ∧ (w.heap.size ≤ s_) ∧ (w.heap.size ≤ s_) ∧ (Below w.heap.size w w')) ?_ ?_
                  rotate_left
                  ·intro hJ15
                   refine three_ (i := 4) (j := 14) (k := 15) (Ni := some 28) (Nj := some 9) (Nk := some 10) #[true, true, true, true, true, false, false, true, true, true, true, false, false, false, false, false, false, false] #[true, true, true, true, false, false, false, true, true, true, true, false, false, false, true, false, false, false] #[true, true, true, true, false, false, false, true, true, true, true, false, false, false, false, true, false, false] rfl rfl rfl rfl rfl rfl (three_of HT_.out (by kernel_rfl)) (by decide) (by decide) (by decide) (fun K hK => ?_) (fun K hK => ?_) (fun K hK => ?_)
                   ·skip
                    refine goes_ Try.func11 (by kernel_rfl) rfl #[.int .i64 a1, .int .i64 (t252.length : Int)] (by rfl) rfl rfl (by (try simp only [List.map_toArray, List.map_cons, List.map_nil]); first | done | rfl | (simp only [List.length_drop, List.length_take]; rfl)) ?_
                    with_reducible refine (chirographkeep_picked.calls a1 (t252.length : Int) t257 _ A11.out).mono ?_
                    rintro e w' ⟨rfl, ⟨nd, rfl⟩⟩
                    refine ⟨_, rfl, ?_⟩
                    refine hK.out _ _ ⟨hHeld.1, hHeld.2.1, hHeld.2.2.1, hHeld.2.2.2.1, hHeld.2.2.2.2.1, hHeld.2.2.2.2.2.1, hHeld.2.2.2.2.2.2.1, hHeld.2.2.2.2.2.2.2.1, hHeld.2.2.2.2.2.2.2.2.1, hHeld.2.2.2.2.2.2.2.2.2⟩ (fun hHeld => ?_)
                    clear hK K
                    refine norm_ (a' := ?_) ?_ ?_
                    rotate_left
                    ·show Act.put _ (some 28) _ = _
                     simp only [Act.put, List.setIfInBounds_toArray, List.set_cons_zero, List.set_cons_succ, i64_w, i32_w]
                     rfl
                    refine pure_ (i := 5) (N := some 29) (v := ?_) (a' := ?_) #[true, true, true, true, true, true, false, true, true, true, true, false, false, false, false, false, false, false] rfl rfl (any_of HT_.out (by kernel_rfl)) (fun _ _ _ h => h) (Or.inl ⟨by rfl, ?_⟩) ?_ ?_
                    rotate_left
                    ·intro w'
                     go_simp
                     with_reducible rfl
                    rotate_left
                    ·simp only [Act.put, List.setIfInBounds_toArray, List.set_cons_zero, List.set_cons_succ, i64_w, i32_w]
                     rfl
                    refine take_ (i := 6) (N := some 30) (v := ?_) (a' := ?_) #[true, true, true, true, true, true, true, true, true, true, true, false, false, false, false, false, false, false] rfl rfl (take_ofW HT_.out HW_.out (by kernel_rfl)) (fun _ _ _ h => h) (Or.inl ⟨by rfl, ?_⟩) hHeld ?_ ?_
                    rotate_left
                    ·rintro w' ⟨s0, s1, s2, s3, s4, s5, s6, s7, s8, s9⟩
                     go_simp
                     with_reducible rfl
                    rotate_left
                    ·simp only [Act.put, List.setIfInBounds_toArray, List.set_cons_zero, List.set_cons_succ, i64_w, i32_w]
                     rfl
                    exact norm_ (by first | (simp only [putAll, Act.put, List.setIfInBounds_toArray, List.set_cons_zero, List.set_cons_succ]; done) | (simp only [putAll, Act.put, List.setIfInBounds_toArray, List.set_cons_zero, List.set_cons_succ]; rfl)) (hJ4 () _ ⟨hHeld, (by (with_reducible repeat (first | apply Kd.R_alloc | apply Kd.R_drewN | apply Kd.R_drew)); exact HO255.out), (by repeat (first | (with_reducible first | exact HB.out | apply below_alloc | apply pw_below_drewN | apply below_drew1) | exact HB.out))⟩)
                   ·skip
                    refine box_step ?hg (N := 9) ?hd (cs := #[.int .i64 0, .int .i64 0, .int .i64 0, .int .i64 0, .bool false]) (t := 28) ?hr ?_; (case hd => rfl); (case hg => rfl); (case hr => first | (go_simp; done) | (go_simp; rfl))
                    intro gb261 hg w28 hbox hb
                    have HS0_ := (hb.cell (World.block_lt_of_cell? _ _ (hHeld.1))).trans (hHeld.1)
                    have HS1_ := (hb.cell (World.block_lt_of_cell? _ _ (hHeld.2.1))).trans (hHeld.2.1)
                    have HS2_ := (hb.cell (World.block_lt_of_cell? _ _ (hHeld.2.2.1))).trans (hHeld.2.2.1)
                    have HS3_ := (hb.cell (World.block_lt_of_cell? _ _ (hHeld.2.2.2.1))).trans (hHeld.2.2.2.1)
                    have HS4_ := (hb.cell (World.block_lt_of_cell? _ _ (hHeld.2.2.2.2.1))).trans (hHeld.2.2.2.2.1)
                    have HS5_ := (hb.cell (World.block_lt_of_cell? _ _ (hHeld.2.2.2.2.2.1))).trans (hHeld.2.2.2.2.2.1)
                    have HS6_ := (hb.cell (World.block_lt_of_cell? _ _ (hHeld.2.2.2.2.2.2.1))).trans (hHeld.2.2.2.2.2.2.1)
                    have HS7_ := (hb.cell (World.block_lt_of_cell? _ _ (hHeld.2.2.2.2.2.2.2.1))).trans (hHeld.2.2.2.2.2.2.2.1)
                    have HS8_ := (hb.cell (World.block_lt_of_cell? _ _ (hHeld.2.2.2.2.2.2.2.2.1))).trans (hHeld.2.2.2.2.2.2.2.2.1)
                    have HS9_ := (hb.cell (World.block_lt_of_cell? _ _ (hHeld.2.2.2.2.2.2.2.2.2))).trans (hHeld.2.2.2.2.2.2.2.2.2)
                    have n0_ := Aside0.mk (Kd.R_below (Kd.R_elderB (by (with_reducible repeat (first | apply Kd.R_alloc | apply Kd.R_drewN | apply Kd.R_drew)); exact HO255.out) gb261 (Nat.le_of_eq hg.symm)) hb)
                    have n1_ := Aside0.mk (below_step (by repeat (first | (with_reducible first | exact HB.out | apply below_alloc | apply pw_below_drewN | apply below_drew1) | exact HB.out)) hb)
                    have n2_ := Aside0.mk (hbox)
                    have n3_ := Aside0.mk ((by rw [hg]; exact (below_size (by repeat (first | (with_reducible first | exact HB.out | apply below_alloc | apply pw_below_drewN | apply below_drew1) | exact HB.out))) : w.heap.size ≤ gb261))
                    have n4_ := Aside0.mk ((by rw [hg]; exact (below_size (by repeat (first | (with_reducible first | exact HB.out | apply below_alloc | apply pw_below_drewN | apply below_drew1) | exact HB.out))) : w.heap.size ≤ gb261))
                    clear HO255
                    clear HB
                    have HO255 := n0_
                    have HB := n1_
                    have BK261 := n2_
                    have GW261 := n3_
                    have GE261 := n4_
                    clear n0_ n1_ n2_ n3_ n4_
                    clear hb hbox hg
                    refine hK.out _ _ ⟨HS0_, HS1_, HS2_, HS3_, HS4_, HS5_, HS6_, HS7_, HS8_, HS9_⟩ (fun hHeld => ?_)
                    clear hK K
                    refine norm_ (a' := ?_) ?_ ?_
                    rotate_left
                    ·show Act.put _ (some 9) _ = _
                     simp only [Act.put, List.setIfInBounds_toArray, List.set_cons_zero, List.set_cons_succ, i64_w, i32_w]
                     rfl
                    exact norm_ (by first | (simp only [putAll, Act.put, List.setIfInBounds_toArray, List.set_cons_zero, List.set_cons_succ]; done) | (simp only [putAll, Act.put, List.setIfInBounds_toArray, List.set_cons_zero, List.set_cons_succ]; rfl)) (hJ14 (gb261) _ ⟨hHeld, (by (with_reducible repeat (first | apply Kd.R_alloc | apply Kd.R_drewN | apply Kd.R_drew)); exact Kd.R_mono HO255.out (fun _ hk => hk.2)), (by (with_reducible repeat (first | refine blk_drewN ?_ _ | refine blk_drew ?_ | refine blk_alloc ?_ _)); exact BK261.out), GW261.out, GE261.out, (by repeat (first | (with_reducible first | exact HB.out | apply below_alloc | apply pw_below_drewN | apply below_drew1 | refine below_set ?_ GE261.out) | exact HB.out))⟩)
                   ·skip
                    refine box_step ?hg (N := 10) ?hd (cs := #[.int .i64 0, .int .i64 0, .int .i64 0, .int .i64 0, .bool false]) (t := 28) ?hr ?_; (case hd => rfl); (case hg => rfl); (case hr => first | (go_simp; done) | (go_simp; rfl))
                    intro gb262 hg w28 hbox hb
                    have HS0_ := (hb.cell (World.block_lt_of_cell? _ _ (hHeld.1))).trans (hHeld.1)
                    have HS1_ := (hb.cell (World.block_lt_of_cell? _ _ (hHeld.2.1))).trans (hHeld.2.1)
                    have HS2_ := (hb.cell (World.block_lt_of_cell? _ _ (hHeld.2.2.1))).trans (hHeld.2.2.1)
                    have HS3_ := (hb.cell (World.block_lt_of_cell? _ _ (hHeld.2.2.2.1))).trans (hHeld.2.2.2.1)
                    have HS4_ := (hb.cell (World.block_lt_of_cell? _ _ (hHeld.2.2.2.2.1))).trans (hHeld.2.2.2.2.1)
                    have HS5_ := (hb.cell (World.block_lt_of_cell? _ _ (hHeld.2.2.2.2.2.1))).trans (hHeld.2.2.2.2.2.1)
                    have HS6_ := (hb.cell (World.block_lt_of_cell? _ _ (hHeld.2.2.2.2.2.2.1))).trans (hHeld.2.2.2.2.2.2.1)
                    have HS7_ := (hb.cell (World.block_lt_of_cell? _ _ (hHeld.2.2.2.2.2.2.2.1))).trans (hHeld.2.2.2.2.2.2.2.1)
                    have HS8_ := (hb.cell (World.block_lt_of_cell? _ _ (hHeld.2.2.2.2.2.2.2.2.1))).trans (hHeld.2.2.2.2.2.2.2.2.1)
                    have HS9_ := (hb.cell (World.block_lt_of_cell? _ _ (hHeld.2.2.2.2.2.2.2.2.2))).trans (hHeld.2.2.2.2.2.2.2.2.2)
                    have n0_ := Aside0.mk (Kd.R_below (Kd.R_elderB (by (with_reducible repeat (first | apply Kd.R_alloc | apply Kd.R_drewN | apply Kd.R_drew)); exact HO255.out) gb262 (Nat.le_of_eq hg.symm)) hb)
                    have n1_ := Aside0.mk (below_step (by repeat (first | (with_reducible first | exact HB.out | apply below_alloc | apply pw_below_drewN | apply below_drew1) | exact HB.out)) hb)
                    have n2_ := Aside0.mk (hbox)
                    have n3_ := Aside0.mk ((by rw [hg]; exact (below_size (by repeat (first | (with_reducible first | exact HB.out | apply below_alloc | apply pw_below_drewN | apply below_drew1) | exact HB.out))) : w.heap.size ≤ gb262))
                    have n4_ := Aside0.mk ((by rw [hg]; exact (below_size (by repeat (first | (with_reducible first | exact HB.out | apply below_alloc | apply pw_below_drewN | apply below_drew1) | exact HB.out))) : w.heap.size ≤ gb262))
                    clear HO255
                    clear HB
                    have HO255 := n0_
                    have HB := n1_
                    have BK262 := n2_
                    have GW262 := n3_
                    have GE262 := n4_
                    clear n0_ n1_ n2_ n3_ n4_
                    clear hb hbox hg
                    refine hK.out _ _ ⟨HS0_, HS1_, HS2_, HS3_, HS4_, HS5_, HS6_, HS7_, HS8_, HS9_⟩ (fun hHeld => ?_)
                    clear hK K
                    refine norm_ (a' := ?_) ?_ ?_
                    rotate_left
                    ·show Act.put _ (some 10) _ = _
                     simp only [Act.put, List.setIfInBounds_toArray, List.set_cons_zero, List.set_cons_succ, i64_w, i32_w]
                     rfl
                    exact norm_ (by first | (simp only [putAll, Act.put, List.setIfInBounds_toArray, List.set_cons_zero, List.set_cons_succ]; done) | (simp only [putAll, Act.put, List.setIfInBounds_toArray, List.set_cons_zero, List.set_cons_succ]; rfl)) (hJ15 (gb262) _ ⟨hHeld, (by (with_reducible repeat (first | apply Kd.R_alloc | apply Kd.R_drewN | apply Kd.R_drew)); exact Kd.R_mono HO255.out (fun _ hk => hk.2)), (by (with_reducible repeat (first | refine blk_drewN ?_ _ | refine blk_drew ?_ | refine blk_alloc ?_ _)); exact BK262.out), GW262.out, GE262.out, (by repeat (first | (with_reducible first | exact HB.out | apply below_alloc | apply pw_below_drewN | apply below_drew1 | refine below_set ?_ GE262.out) | exact HB.out))⟩)
                  ·skip
                   rintro gb262 w29 ⟨hS_, h0_, h1_, h2_, h3_, h4_⟩
                   have n0_ : Aside0 (Kd.R k28 28 w29 w.heap.size (fun k_ => k_ ≠ gb262) (.slice (some ad258) t252.length co26) t252) := ⟨h0_⟩
                   have n1_ : Aside0 (w29.heap[gb262]? = some (.cells #[.int .i64 0, .int .i64 0, .int .i64 0, .int .i64 0, .bool false] 28 (0, 0))) := ⟨h1_⟩
                   have n2_ : Aside0 (w.heap.size ≤ gb262) := ⟨h2_⟩
                   have n3_ : Aside0 (w.heap.size ≤ gb262) := ⟨h3_⟩
                   have n4_ : Aside0 (Below w.heap.size w w29) := ⟨h4_⟩
                   clear HO255
                   clear HB
                   clear h0_ h1_ h2_ h3_ h4_
                   have HO255 := n0_
                   have BK262 := n1_
                   have GW262 := n2_
                   have GE262 := n3_
                   have HB := n4_
                   clear n0_ n1_ n2_ n3_ n4_
                   have hHeld : w29.cell? (ad258.add ((t257).toNat * 5)) = some (.int .i64 ((rd_T28 t252 t257).f0)) ∧ w29.cell? ⟨(ad258.add ((t257).toNat * 5)).block, (ad258.add ((t257).toNat * 5)).off + 1, none⟩ = some (.int .i64 ((rd_T28 t252 t257).f1)) ∧ w29.cell? ⟨(ad258.add ((t257).toNat * 5)).block, (ad258.add ((t257).toNat * 5)).off + 2, none⟩ = some (.int .i64 ((rd_T28 t252 t257).f2)) ∧ w29.cell? ⟨(ad258.add ((t257).toNat * 5)).block, (ad258.add ((t257).toNat * 5)).off + 3, none⟩ = some (.int .i64 ((rd_T28 t252 t257).f3)) ∧ w29.cell? ⟨(ad258.add ((t257).toNat * 5)).block, (ad258.add ((t257).toNat * 5)).off + 4, none⟩ = some (.bool ((rd_T28 t252 t257).f4)) ∧ w29.cell? (ad258.add ((t259).toNat * 5)) = some (.int .i64 ((rd_T28 t252 t259).f0)) ∧ w29.cell? ⟨(ad258.add ((t259).toNat * 5)).block, (ad258.add ((t259).toNat * 5)).off + 1, none⟩ = some (.int .i64 ((rd_T28 t252 t259).f1)) ∧ w29.cell? ⟨(ad258.add ((t259).toNat * 5)).block, (ad258.add ((t259).toNat * 5)).off + 2, none⟩ = some (.int .i64 ((rd_T28 t252 t259).f2)) ∧ w29.cell? ⟨(ad258.add ((t259).toNat * 5)).block, (ad258.add ((t259).toNat * 5)).off + 3, none⟩ = some (.int .i64 ((rd_T28 t252 t259).f3)) ∧ w29.cell? ⟨(ad258.add ((t259).toNat * 5)).block, (ad258.add ((t259).toNat * 5)).off + 4, none⟩ = some (.bool ((rd_T28 t252 t259).f4)) := hS_
                   refine norm_ (a' := ?_) ?_ ?_
                   rotate_left
                   ·simp only [putAll, Act.put, List.setIfInBounds_toArray, List.set_cons_zero, List.set_cons_succ]
                    rfl
                   refine two_ (i := 4) (j := 14) (Ni := some 28) (Nj := some 9) #[true, true, true, true, true, false, false, true, true, true, true, false, false, false, false, true, false, false] #[true, true, true, true, false, false, false, true, true, true, true, false, false, false, true, true, false, false] rfl rfl rfl rfl (two_of HT_.out (by kernel_rfl)) (by decide) (by decide) (fun K hK => ?_) (fun K hK => ?_)
                   ·skip
                    refine goes_ Try.func11 (by kernel_rfl) rfl #[.int .i64 a1, .int .i64 (t252.length : Int)] (by rfl) rfl rfl (by (try simp only [List.map_toArray, List.map_cons, List.map_nil]); first | done | rfl | (simp only [List.length_drop, List.length_take]; rfl)) ?_
                    with_reducible refine (chirographkeep_picked.calls a1 (t252.length : Int) t257 _ A11.out).mono ?_
                    rintro e w' ⟨rfl, ⟨nd, rfl⟩⟩
                    refine ⟨_, rfl, ?_⟩
                    refine hK.out _ _ ⟨hHeld.1, hHeld.2.1, hHeld.2.2.1, hHeld.2.2.2.1, hHeld.2.2.2.2.1, hHeld.2.2.2.2.2.1, hHeld.2.2.2.2.2.2.1, hHeld.2.2.2.2.2.2.2.1, hHeld.2.2.2.2.2.2.2.2.1, hHeld.2.2.2.2.2.2.2.2.2⟩ (fun hHeld => ?_)
                    clear hK K
                    refine norm_ (a' := ?_) ?_ ?_
                    rotate_left
                    ·show Act.put _ (some 28) _ = _
                     simp only [Act.put, List.setIfInBounds_toArray, List.set_cons_zero, List.set_cons_succ, i64_w, i32_w]
                     rfl
                    refine pure_ (i := 5) (N := some 29) (v := ?_) (a' := ?_) #[true, true, true, true, true, true, false, true, true, true, true, false, false, false, false, true, false, false] rfl rfl (any_of HT_.out (by kernel_rfl)) (fun _ _ _ h => h) (Or.inl ⟨by rfl, ?_⟩) ?_ ?_
                    rotate_left
                    ·intro w'
                     go_simp
                     with_reducible rfl
                    rotate_left
                    ·simp only [Act.put, List.setIfInBounds_toArray, List.set_cons_zero, List.set_cons_succ, i64_w, i32_w]
                     rfl
                    refine take_ (i := 6) (N := some 30) (v := ?_) (a' := ?_) #[true, true, true, true, true, true, true, true, true, true, true, false, false, false, false, true, false, false] rfl rfl (take_ofW HT_.out HW_.out (by kernel_rfl)) (fun _ _ _ h => h) (Or.inl ⟨by rfl, ?_⟩) hHeld ?_ ?_
                    rotate_left
                    ·rintro w' ⟨s0, s1, s2, s3, s4, s5, s6, s7, s8, s9⟩
                     go_simp
                     with_reducible rfl
                    rotate_left
                    ·simp only [Act.put, List.setIfInBounds_toArray, List.set_cons_zero, List.set_cons_succ, i64_w, i32_w]
                     rfl
                    exact norm_ (by first | (simp only [putAll, Act.put, List.setIfInBounds_toArray, List.set_cons_zero, List.set_cons_succ]; done) | (simp only [putAll, Act.put, List.setIfInBounds_toArray, List.set_cons_zero, List.set_cons_succ]; rfl)) (hJ4_15 (gb262) _ ⟨hHeld, (by (with_reducible repeat (first | apply Kd.R_alloc | apply Kd.R_drewN | apply Kd.R_drew)); exact HO255.out), (by (with_reducible repeat (first | refine blk_drewN ?_ _ | refine blk_drew ?_ | refine blk_alloc ?_ _)); exact BK262.out), GW262.out, GE262.out, (by repeat (first | (with_reducible first | exact HB.out | apply below_alloc | apply pw_below_drewN | apply below_drew1 | refine below_set ?_ GE262.out) | exact HB.out))⟩)
                   ·skip
                    refine box_step ?hg (N := 9) ?hd (cs := #[.int .i64 0, .int .i64 0, .int .i64 0, .int .i64 0, .bool false]) (t := 28) ?hr ?_; (case hd => rfl); (case hg => rfl); (case hr => first | (go_simp; done) | (go_simp; rfl))
                    intro gb261 hg w30 hbox hb
                    have HS0_ := (hb.cell (World.block_lt_of_cell? _ _ (hHeld.1))).trans (hHeld.1)
                    have HS1_ := (hb.cell (World.block_lt_of_cell? _ _ (hHeld.2.1))).trans (hHeld.2.1)
                    have HS2_ := (hb.cell (World.block_lt_of_cell? _ _ (hHeld.2.2.1))).trans (hHeld.2.2.1)
                    have HS3_ := (hb.cell (World.block_lt_of_cell? _ _ (hHeld.2.2.2.1))).trans (hHeld.2.2.2.1)
                    have HS4_ := (hb.cell (World.block_lt_of_cell? _ _ (hHeld.2.2.2.2.1))).trans (hHeld.2.2.2.2.1)
                    have HS5_ := (hb.cell (World.block_lt_of_cell? _ _ (hHeld.2.2.2.2.2.1))).trans (hHeld.2.2.2.2.2.1)
                    have HS6_ := (hb.cell (World.block_lt_of_cell? _ _ (hHeld.2.2.2.2.2.2.1))).trans (hHeld.2.2.2.2.2.2.1)
                    have HS7_ := (hb.cell (World.block_lt_of_cell? _ _ (hHeld.2.2.2.2.2.2.2.1))).trans (hHeld.2.2.2.2.2.2.2.1)
                    have HS8_ := (hb.cell (World.block_lt_of_cell? _ _ (hHeld.2.2.2.2.2.2.2.2.1))).trans (hHeld.2.2.2.2.2.2.2.2.1)
                    have HS9_ := (hb.cell (World.block_lt_of_cell? _ _ (hHeld.2.2.2.2.2.2.2.2.2))).trans (hHeld.2.2.2.2.2.2.2.2.2)
                    have n0_ := Aside0.mk (Kd.R_below (Kd.R_elderB (by (with_reducible repeat (first | apply Kd.R_alloc | apply Kd.R_drewN | apply Kd.R_drew)); exact HO255.out) gb261 (Nat.le_of_eq hg.symm)) hb)
                    have n1_ := Aside0.mk (blk_below (g := gb262) (o := .cells #[.int .i64 0, .int .i64 0, .int .i64 0, .int .i64 0, .bool false] 28 (0, 0)) (by (with_reducible repeat (first | refine blk_drewN ?_ _ | refine blk_drew ?_ | refine blk_alloc ?_ _)); exact BK262.out) hb)
                    have n2_ := Aside0.mk (below_step (by repeat (first | (with_reducible first | exact HB.out | apply below_alloc | apply pw_below_drewN | apply below_drew1 | refine below_set ?_ GE262.out) | exact HB.out)) hb)
                    have n3_ := Aside0.mk (hbox)
                    have n4_ := Aside0.mk ((by rw [hg]; exact (below_size (by repeat (first | (with_reducible first | exact HB.out | apply below_alloc | apply pw_below_drewN | apply below_drew1 | refine below_set ?_ GE262.out) | exact HB.out))) : w.heap.size ≤ gb261))
                    have n5_ := Aside0.mk ((by rw [hg]; exact (below_size (by repeat (first | (with_reducible first | exact HB.out | apply below_alloc | apply pw_below_drewN | apply below_drew1 | refine below_set ?_ GE262.out) | exact HB.out))) : w.heap.size ≤ gb261))
                    have n6_ := Aside0.mk ((by rw [hg]; exact Nat.ne_of_lt (blk_lt (g := gb262) (o := .cells #[.int .i64 0, .int .i64 0, .int .i64 0, .int .i64 0, .bool false] 28 (0, 0)) (by (with_reducible repeat (first | refine blk_drewN ?_ _ | refine blk_drew ?_ | refine blk_alloc ?_ _)); exact BK262.out)) : gb262 ≠ gb261))
                    have n7_ := Aside0.mk ((by rw [hg]; exact Nat.ne_of_gt (blk_lt (g := gb262) (o := .cells #[.int .i64 0, .int .i64 0, .int .i64 0, .int .i64 0, .bool false] 28 (0, 0)) (by (with_reducible repeat (first | refine blk_drewN ?_ _ | refine blk_drew ?_ | refine blk_alloc ?_ _)); exact BK262.out)) : gb261 ≠ gb262))
                    clear HO255
                    clear BK262
                    clear HB
                    have HO255 := n0_
                    have BK262 := n1_
                    have HB := n2_
                    have BK261 := n3_
                    have GW261 := n4_
                    have GE261 := n5_
                    have NB262_261 := n6_
                    have NB261_262 := n7_
                    clear n0_ n1_ n2_ n3_ n4_ n5_ n6_ n7_
                    clear hb hbox hg
                    refine hK.out _ _ ⟨HS0_, HS1_, HS2_, HS3_, HS4_, HS5_, HS6_, HS7_, HS8_, HS9_⟩ (fun hHeld => ?_)
                    clear hK K
                    refine norm_ (a' := ?_) ?_ ?_
                    rotate_left
                    ·show Act.put _ (some 9) _ = _
                     simp only [Act.put, List.setIfInBounds_toArray, List.set_cons_zero, List.set_cons_succ, i64_w, i32_w]
                     rfl
                    exact norm_ (by first | (simp only [putAll, Act.put, List.setIfInBounds_toArray, List.set_cons_zero, List.set_cons_succ]; done) | (simp only [putAll, Act.put, List.setIfInBounds_toArray, List.set_cons_zero, List.set_cons_succ]; rfl)) (hJ14_15 (gb261, gb262) _ ⟨hHeld, (by (with_reducible repeat (first | apply Kd.R_alloc | apply Kd.R_drewN | apply Kd.R_drew)); exact Kd.R_mono HO255.out (fun _ hk => ⟨hk.2, hk.1⟩)), (by (with_reducible repeat (first | refine blk_drewN ?_ _ | refine blk_drew ?_ | refine blk_alloc ?_ _)); exact BK261.out), (by (with_reducible repeat (first | refine blk_drewN ?_ _ | refine blk_drew ?_ | refine blk_alloc ?_ _)); exact BK262.out), GW261.out, GE261.out, NB262_261.out, NB261_262.out, GW262.out, GE262.out, (by repeat (first | (with_reducible first | exact HB.out | apply below_alloc | apply pw_below_drewN | apply below_drew1 | refine below_set ?_ GE262.out | refine below_set ?_ GE261.out) | exact HB.out))⟩)
                 ·skip
                  rintro gb261 w29 ⟨hS_, h0_, h1_, h2_, h3_, h4_⟩
                  have n0_ : Aside0 (Kd.R k28 28 w29 w.heap.size (fun k_ => k_ ≠ gb261) (.slice (some ad258) t252.length co26) t252) := ⟨h0_⟩
                  have n1_ : Aside0 (w29.heap[gb261]? = some (.cells #[.int .i64 0, .int .i64 0, .int .i64 0, .int .i64 0, .bool false] 28 (0, 0))) := ⟨h1_⟩
                  have n2_ : Aside0 (w.heap.size ≤ gb261) := ⟨h2_⟩
                  have n3_ : Aside0 (w.heap.size ≤ gb261) := ⟨h3_⟩
                  have n4_ : Aside0 (Below w.heap.size w w29) := ⟨h4_⟩
                  clear HO255
                  clear HB
                  clear h0_ h1_ h2_ h3_ h4_
                  have HO255 := n0_
                  have BK261 := n1_
                  have GW261 := n2_
                  have GE261 := n3_
                  have HB := n4_
                  clear n0_ n1_ n2_ n3_ n4_
                  have hHeld : w29.cell? (ad258.add ((t257).toNat * 5)) = some (.int .i64 ((rd_T28 t252 t257).f0)) ∧ w29.cell? ⟨(ad258.add ((t257).toNat * 5)).block, (ad258.add ((t257).toNat * 5)).off + 1, none⟩ = some (.int .i64 ((rd_T28 t252 t257).f1)) ∧ w29.cell? ⟨(ad258.add ((t257).toNat * 5)).block, (ad258.add ((t257).toNat * 5)).off + 2, none⟩ = some (.int .i64 ((rd_T28 t252 t257).f2)) ∧ w29.cell? ⟨(ad258.add ((t257).toNat * 5)).block, (ad258.add ((t257).toNat * 5)).off + 3, none⟩ = some (.int .i64 ((rd_T28 t252 t257).f3)) ∧ w29.cell? ⟨(ad258.add ((t257).toNat * 5)).block, (ad258.add ((t257).toNat * 5)).off + 4, none⟩ = some (.bool ((rd_T28 t252 t257).f4)) ∧ w29.cell? (ad258.add ((t259).toNat * 5)) = some (.int .i64 ((rd_T28 t252 t259).f0)) ∧ w29.cell? ⟨(ad258.add ((t259).toNat * 5)).block, (ad258.add ((t259).toNat * 5)).off + 1, none⟩ = some (.int .i64 ((rd_T28 t252 t259).f1)) ∧ w29.cell? ⟨(ad258.add ((t259).toNat * 5)).block, (ad258.add ((t259).toNat * 5)).off + 2, none⟩ = some (.int .i64 ((rd_T28 t252 t259).f2)) ∧ w29.cell? ⟨(ad258.add ((t259).toNat * 5)).block, (ad258.add ((t259).toNat * 5)).off + 3, none⟩ = some (.int .i64 ((rd_T28 t252 t259).f3)) ∧ w29.cell? ⟨(ad258.add ((t259).toNat * 5)).block, (ad258.add ((t259).toNat * 5)).off + 4, none⟩ = some (.bool ((rd_T28 t252 t259).f4)) := hS_
                  refine norm_ (a' := ?_) ?_ ?_
                  rotate_left
                  ·simp only [putAll, Act.put, List.setIfInBounds_toArray, List.set_cons_zero, List.set_cons_succ]
                   rfl
                  refine two_ (i := 4) (j := 15) (Ni := some 28) (Nj := some 10) #[true, true, true, true, true, false, false, true, true, true, true, false, false, false, true, false, false, false] #[true, true, true, true, false, false, false, true, true, true, true, false, false, false, true, true, false, false] rfl rfl rfl rfl (two_of HT_.out (by kernel_rfl)) (by decide) (by decide) (fun K hK => ?_) (fun K hK => ?_)
                  ·skip
                   refine goes_ Try.func11 (by kernel_rfl) rfl #[.int .i64 a1, .int .i64 (t252.length : Int)] (by rfl) rfl rfl (by (try simp only [List.map_toArray, List.map_cons, List.map_nil]); first | done | rfl | (simp only [List.length_drop, List.length_take]; rfl)) ?_
                   with_reducible refine (chirographkeep_picked.calls a1 (t252.length : Int) t257 _ A11.out).mono ?_
                   rintro e w' ⟨rfl, ⟨nd, rfl⟩⟩
                   refine ⟨_, rfl, ?_⟩
                   refine hK.out _ _ ⟨hHeld.1, hHeld.2.1, hHeld.2.2.1, hHeld.2.2.2.1, hHeld.2.2.2.2.1, hHeld.2.2.2.2.2.1, hHeld.2.2.2.2.2.2.1, hHeld.2.2.2.2.2.2.2.1, hHeld.2.2.2.2.2.2.2.2.1, hHeld.2.2.2.2.2.2.2.2.2⟩ (fun hHeld => ?_)
                   clear hK K
                   refine norm_ (a' := ?_) ?_ ?_
                   rotate_left
                   ·show Act.put _ (some 28) _ = _
                    simp only [Act.put, List.setIfInBounds_toArray, List.set_cons_zero, List.set_cons_succ, i64_w, i32_w]
                    rfl
                   refine pure_ (i := 5) (N := some 29) (v := ?_) (a' := ?_) #[true, true, true, true, true, true, false, true, true, true, true, false, false, false, true, false, false, false] rfl rfl (any_of HT_.out (by kernel_rfl)) (fun _ _ _ h => h) (Or.inl ⟨by rfl, ?_⟩) ?_ ?_
                   rotate_left
                   ·intro w'
                    go_simp
                    with_reducible rfl
                   rotate_left
                   ·simp only [Act.put, List.setIfInBounds_toArray, List.set_cons_zero, List.set_cons_succ, i64_w, i32_w]
                    rfl
                   refine take_ (i := 6) (N := some 30) (v := ?_) (a' := ?_) #[true, true, true, true, true, true, true, true, true, true, true, false, false, false, true, false, false, false] rfl rfl (take_ofW HT_.out HW_.out (by kernel_rfl)) (fun _ _ _ h => h) (Or.inl ⟨by rfl, ?_⟩) hHeld ?_ ?_
                   rotate_left
                   ·rintro w' ⟨s0, s1, s2, s3, s4, s5, s6, s7, s8, s9⟩
                    go_simp
                    with_reducible rfl
                   rotate_left
                   ·simp only [Act.put, List.setIfInBounds_toArray, List.set_cons_zero, List.set_cons_succ, i64_w, i32_w]
                    rfl
                   exact norm_ (by first | (simp only [putAll, Act.put, List.setIfInBounds_toArray, List.set_cons_zero, List.set_cons_succ]; done) | (simp only [putAll, Act.put, List.setIfInBounds_toArray, List.set_cons_zero, List.set_cons_succ]; rfl)) (hJ4_14 (gb261) _ ⟨hHeld, (by (with_reducible repeat (first | apply Kd.R_alloc | apply Kd.R_drewN | apply Kd.R_drew)); exact HO255.out), (by (with_reducible repeat (first | refine blk_drewN ?_ _ | refine blk_drew ?_ | refine blk_alloc ?_ _)); exact BK261.out), GW261.out, GE261.out, (by repeat (first | (with_reducible first | exact HB.out | apply below_alloc | apply pw_below_drewN | apply below_drew1 | refine below_set ?_ GE261.out) | exact HB.out))⟩)
                  ·skip
                   refine box_step ?hg (N := 10) ?hd (cs := #[.int .i64 0, .int .i64 0, .int .i64 0, .int .i64 0, .bool false]) (t := 28) ?hr ?_; (case hd => rfl); (case hg => rfl); (case hr => first | (go_simp; done) | (go_simp; rfl))
                   intro gb262 hg w30 hbox hb
                   have HS0_ := (hb.cell (World.block_lt_of_cell? _ _ (hHeld.1))).trans (hHeld.1)
                   have HS1_ := (hb.cell (World.block_lt_of_cell? _ _ (hHeld.2.1))).trans (hHeld.2.1)
                   have HS2_ := (hb.cell (World.block_lt_of_cell? _ _ (hHeld.2.2.1))).trans (hHeld.2.2.1)
                   have HS3_ := (hb.cell (World.block_lt_of_cell? _ _ (hHeld.2.2.2.1))).trans (hHeld.2.2.2.1)
                   have HS4_ := (hb.cell (World.block_lt_of_cell? _ _ (hHeld.2.2.2.2.1))).trans (hHeld.2.2.2.2.1)
                   have HS5_ := (hb.cell (World.block_lt_of_cell? _ _ (hHeld.2.2.2.2.2.1))).trans (hHeld.2.2.2.2.2.1)
                   have HS6_ := (hb.cell (World.block_lt_of_cell? _ _ (hHeld.2.2.2.2.2.2.1))).trans (hHeld.2.2.2.2.2.2.1)
                   have HS7_ := (hb.cell (World.block_lt_of_cell? _ _ (hHeld.2.2.2.2.2.2.2.1))).trans (hHeld.2.2.2.2.2.2.2.1)
                   have HS8_ := (hb.cell (World.block_lt_of_cell? _ _ (hHeld.2.2.2.2.2.2.2.2.1))).trans (hHeld.2.2.2.2.2.2.2.2.1)
                   have HS9_ := (hb.cell (World.block_lt_of_cell? _ _ (hHeld.2.2.2.2.2.2.2.2.2))).trans (hHeld.2.2.2.2.2.2.2.2.2)
                   have n0_ := Aside0.mk (Kd.R_below (Kd.R_elderB (by (with_reducible repeat (first | apply Kd.R_alloc | apply Kd.R_drewN | apply Kd.R_drew)); exact HO255.out) gb262 (Nat.le_of_eq hg.symm)) hb)
                   have n1_ := Aside0.mk (blk_below (g := gb261) (o := .cells #[.int .i64 0, .int .i64 0, .int .i64 0, .int .i64 0, .bool false] 28 (0, 0)) (by (with_reducible repeat (first | refine blk_drewN ?_ _ | refine blk_drew ?_ | refine blk_alloc ?_ _)); exact BK261.out) hb)
                   have n2_ := Aside0.mk (below_step (by repeat (first | (with_reducible first | exact HB.out | apply below_alloc | apply pw_below_drewN | apply below_drew1 | refine below_set ?_ GE261.out) | exact HB.out)) hb)
                   have n3_ := Aside0.mk (hbox)
                   have n4_ := Aside0.mk ((by rw [hg]; exact (below_size (by repeat (first | (with_reducible first | exact HB.out | apply below_alloc | apply pw_below_drewN | apply below_drew1 | refine below_set ?_ GE261.out) | exact HB.out))) : w.heap.size ≤ gb262))
                   have n5_ := Aside0.mk ((by rw [hg]; exact (below_size (by repeat (first | (with_reducible first | exact HB.out | apply below_alloc | apply pw_below_drewN | apply below_drew1 | refine below_set ?_ GE261.out) | exact HB.out))) : w.heap.size ≤ gb262))
                   have n6_ := Aside0.mk ((by rw [hg]; exact Nat.ne_of_lt (blk_lt (g := gb261) (o := .cells #[.int .i64 0, .int .i64 0, .int .i64 0, .int .i64 0, .bool false] 28 (0, 0)) (by (with_reducible repeat (first | refine blk_drewN ?_ _ | refine blk_drew ?_ | refine blk_alloc ?_ _)); exact BK261.out)) : gb261 ≠ gb262))
                   have n7_ := Aside0.mk ((by rw [hg]; exact Nat.ne_of_gt (blk_lt (g := gb261) (o := .cells #[.int .i64 0, .int .i64 0, .int .i64 0, .int .i64 0, .bool false] 28 (0, 0)) (by (with_reducible repeat (first | refine blk_drewN ?_ _ | refine blk_drew ?_ | refine blk_alloc ?_ _)); exact BK261.out)) : gb262 ≠ gb261))
                   clear HO255
                   clear BK261
                   clear HB
                   have HO255 := n0_
                   have BK261 := n1_
                   have HB := n2_
                   have BK262 := n3_
                   have GW262 := n4_
                   have GE262 := n5_
                   have NB261_262 := n6_
                   have NB262_261 := n7_
                   clear n0_ n1_ n2_ n3_ n4_ n5_ n6_ n7_
                   clear hb hbox hg
                   refine hK.out _ _ ⟨HS0_, HS1_, HS2_, HS3_, HS4_, HS5_, HS6_, HS7_, HS8_, HS9_⟩ (fun hHeld => ?_)
                   clear hK K
                   refine norm_ (a' := ?_) ?_ ?_
                   rotate_left
                   ·show Act.put _ (some 10) _ = _
                    simp only [Act.put, List.setIfInBounds_toArray, List.set_cons_zero, List.set_cons_succ, i64_w, i32_w]
                    rfl
                   exact norm_ (by first | (simp only [putAll, Act.put, List.setIfInBounds_toArray, List.set_cons_zero, List.set_cons_succ]; done) | (simp only [putAll, Act.put, List.setIfInBounds_toArray, List.set_cons_zero, List.set_cons_succ]; rfl)) (hJ14_15 (gb261, gb262) _ ⟨hHeld, (by (with_reducible repeat (first | apply Kd.R_alloc | apply Kd.R_drewN | apply Kd.R_drew)); exact HO255.out), (by (with_reducible repeat (first | refine blk_drewN ?_ _ | refine blk_drew ?_ | refine blk_alloc ?_ _)); exact BK261.out), (by (with_reducible repeat (first | refine blk_drewN ?_ _ | refine blk_drew ?_ | refine blk_alloc ?_ _)); exact BK262.out), GW261.out, GE261.out, NB262_261.out, NB261_262.out, GW262.out, GE262.out, (by repeat (first | (with_reducible first | exact HB.out | apply below_alloc | apply pw_below_drewN | apply below_drew1 | refine below_set ?_ GE261.out | refine below_set ?_ GE262.out) | exact HB.out))⟩)
                ·skip
                 rintro _ w28 ⟨hS_, h0_, h1_⟩
                 have n0_ : Aside0 (Kd.R k28 28 w28 w.heap.size (fun _ => True) (.slice (some ad258) t252.length co26) t252) := ⟨h0_⟩
                 have n1_ : Aside0 (Below w.heap.size w w28) := ⟨h1_⟩
                 clear HO255
                 clear HB
                 clear h0_ h1_
                 have HO255 := n0_
                 have HB := n1_
                 clear n0_ n1_
                 have hHeld : w28.cell? (ad258.add ((t257).toNat * 5)) = some (.int .i64 ((rd_T28 t252 t257).f0)) ∧ w28.cell? ⟨(ad258.add ((t257).toNat * 5)).block, (ad258.add ((t257).toNat * 5)).off + 1, none⟩ = some (.int .i64 ((rd_T28 t252 t257).f1)) ∧ w28.cell? ⟨(ad258.add ((t257).toNat * 5)).block, (ad258.add ((t257).toNat * 5)).off + 2, none⟩ = some (.int .i64 ((rd_T28 t252 t257).f2)) ∧ w28.cell? ⟨(ad258.add ((t257).toNat * 5)).block, (ad258.add ((t257).toNat * 5)).off + 3, none⟩ = some (.int .i64 ((rd_T28 t252 t257).f3)) ∧ w28.cell? ⟨(ad258.add ((t257).toNat * 5)).block, (ad258.add ((t257).toNat * 5)).off + 4, none⟩ = some (.bool ((rd_T28 t252 t257).f4)) ∧ w28.cell? (ad258.add ((t259).toNat * 5)) = some (.int .i64 ((rd_T28 t252 t259).f0)) ∧ w28.cell? ⟨(ad258.add ((t259).toNat * 5)).block, (ad258.add ((t259).toNat * 5)).off + 1, none⟩ = some (.int .i64 ((rd_T28 t252 t259).f1)) ∧ w28.cell? ⟨(ad258.add ((t259).toNat * 5)).block, (ad258.add ((t259).toNat * 5)).off + 2, none⟩ = some (.int .i64 ((rd_T28 t252 t259).f2)) ∧ w28.cell? ⟨(ad258.add ((t259).toNat * 5)).block, (ad258.add ((t259).toNat * 5)).off + 3, none⟩ = some (.int .i64 ((rd_T28 t252 t259).f3)) ∧ w28.cell? ⟨(ad258.add ((t259).toNat * 5)).block, (ad258.add ((t259).toNat * 5)).off + 4, none⟩ = some (.bool ((rd_T28 t252 t259).f4)) := hS_
                 refine norm_ (a' := ?_) ?_ ?_
                 rotate_left
                 ·simp only [putAll, Act.put, List.setIfInBounds_toArray, List.set_cons_zero, List.set_cons_succ]
                  rfl
                 refine three_ (i := 11) (j := 14) (k := 15) (Ni := some 35) (Nj := some 9) (Nk := some 10) #[true, true, true, true, true, true, true, true, true, true, true, true, false, false, false, false, false, false] #[true, true, true, true, true, true, true, true, true, true, true, false, false, false, true, false, false, false] #[true, true, true, true, true, true, true, true, true, true, true, false, false, false, false, true, false, false] rfl rfl rfl rfl rfl rfl (three_of HT_.out (by kernel_rfl)) (by decide) (by decide) (by decide) (fun K hK => ?_) (fun K hK => ?_) (fun K hK => ?_)
                 ·skip
                  refine goes_ Try.func11 (by kernel_rfl) rfl #[.int .i64 a2, .int .i64 (t252.length : Int)] (by rfl) rfl rfl (by (try simp only [List.map_toArray, List.map_cons, List.map_nil]); first | done | rfl | (simp only [List.length_drop, List.length_take]; rfl)) ?_
                  with_reducible refine (chirographkeep_picked.calls a2 (t252.length : Int) t259 _ A14.out).mono ?_
                  rintro e w' ⟨rfl, ⟨nd, rfl⟩⟩
                  refine ⟨_, rfl, ?_⟩
                  refine hK.out _ _ ⟨hHeld.1, hHeld.2.1, hHeld.2.2.1, hHeld.2.2.2.1, hHeld.2.2.2.2.1, hHeld.2.2.2.2.2.1, hHeld.2.2.2.2.2.2.1, hHeld.2.2.2.2.2.2.2.1, hHeld.2.2.2.2.2.2.2.2.1, hHeld.2.2.2.2.2.2.2.2.2⟩ (fun hHeld => ?_)
                  clear hK K
                  refine norm_ (a' := ?_) ?_ ?_
                  rotate_left
                  ·show Act.put _ (some 35) _ = _
                   simp only [Act.put, List.setIfInBounds_toArray, List.set_cons_zero, List.set_cons_succ, i64_w, i32_w]
                   rfl
                  refine pure_ (i := 12) (N := some 36) (v := ?_) (a' := ?_) #[true, true, true, true, true, true, true, true, true, true, true, true, true, false, false, false, false, false] rfl rfl (any_of HT_.out (by kernel_rfl)) (fun _ _ _ h => h) (Or.inl ⟨by rfl, ?_⟩) ?_ ?_
                  rotate_left
                  ·intro w'
                   go_simp
                   with_reducible rfl
                  rotate_left
                  ·simp only [Act.put, List.setIfInBounds_toArray, List.set_cons_zero, List.set_cons_succ, i64_w, i32_w]
                   rfl
                  refine take_ (i := 13) (N := some 37) (v := ?_) (a' := ?_) #[true, true, true, true, true, true, true, true, true, true, true, true, true, true, false, false, false, false] rfl rfl (take_ofW HT_.out HW_.out (by kernel_rfl)) (fun _ _ _ h => h) (Or.inl ⟨by rfl, ?_⟩) hHeld ?_ ?_
                  rotate_left
                  ·rintro w' ⟨s0, s1, s2, s3, s4, s5, s6, s7, s8, s9⟩
                   go_simp
                   with_reducible rfl
                  rotate_left
                  ·simp only [Act.put, List.setIfInBounds_toArray, List.set_cons_zero, List.set_cons_succ, i64_w, i32_w]
                   rfl
                  exact norm_ (by first | (simp only [putAll, Act.put, List.setIfInBounds_toArray, List.set_cons_zero, List.set_cons_succ]; done) | (simp only [putAll, Act.put, List.setIfInBounds_toArray, List.set_cons_zero, List.set_cons_succ]; rfl)) (hJ4_11 () _ ⟨hHeld, (by (with_reducible repeat (first | apply Kd.R_alloc | apply Kd.R_drewN | apply Kd.R_drew)); exact HO255.out), (by repeat (first | (with_reducible first | exact HB.out | apply below_alloc | apply pw_below_drewN | apply below_drew1) | exact HB.out))⟩)
                 ·skip
                  refine box_step ?hg (N := 9) ?hd (cs := #[.int .i64 0, .int .i64 0, .int .i64 0, .int .i64 0, .bool false]) (t := 28) ?hr ?_; (case hd => rfl); (case hg => rfl); (case hr => first | (go_simp; done) | (go_simp; rfl))
                  intro gb261 hg w29 hbox hb
                  have HS0_ := (hb.cell (World.block_lt_of_cell? _ _ (hHeld.1))).trans (hHeld.1)
                  have HS1_ := (hb.cell (World.block_lt_of_cell? _ _ (hHeld.2.1))).trans (hHeld.2.1)
                  have HS2_ := (hb.cell (World.block_lt_of_cell? _ _ (hHeld.2.2.1))).trans (hHeld.2.2.1)
                  have HS3_ := (hb.cell (World.block_lt_of_cell? _ _ (hHeld.2.2.2.1))).trans (hHeld.2.2.2.1)
                  have HS4_ := (hb.cell (World.block_lt_of_cell? _ _ (hHeld.2.2.2.2.1))).trans (hHeld.2.2.2.2.1)
                  have HS5_ := (hb.cell (World.block_lt_of_cell? _ _ (hHeld.2.2.2.2.2.1))).trans (hHeld.2.2.2.2.2.1)
                  have HS6_ := (hb.cell (World.block_lt_of_cell? _ _ (hHeld.2.2.2.2.2.2.1))).trans (hHeld.2.2.2.2.2.2.1)
                  have HS7_ := (hb.cell (World.block_lt_of_cell? _ _ (hHeld.2.2.2.2.2.2.2.1))).trans (hHeld.2.2.2.2.2.2.2.1)
                  have HS8_ := (hb.cell (World.block_lt_of_cell? _ _ (hHeld.2.2.2.2.2.2.2.2.1))).trans (hHeld.2.2.2.2.2.2.2.2.1)
                  have HS9_ := (hb.cell (World.block_lt_of_cell? _ _ (hHeld.2.2.2.2.2.2.2.2.2))).trans (hHeld.2.2.2.2.2.2.2.2.2)
                  have n0_ := Aside0.mk (Kd.R_below (Kd.R_elderB (by (with_reducible repeat (first | apply Kd.R_alloc | apply Kd.R_drewN | apply Kd.R_drew)); exact HO255.out) gb261 (Nat.le_of_eq hg.symm)) hb)
                  have n1_ := Aside0.mk (below_step (by repeat (first | (with_reducible first | exact HB.out | apply below_alloc | apply pw_below_drewN | apply below_drew1) | exact HB.out)) hb)
                  have n2_ := Aside0.mk (hbox)
                  have n3_ := Aside0.mk ((by rw [hg]; exact (below_size (by repeat (first | (with_reducible first | exact HB.out | apply below_alloc | apply pw_below_drewN | apply below_drew1) | exact HB.out))) : w.heap.size ≤ gb261))
                  have n4_ := Aside0.mk ((by rw [hg]; exact (below_size (by repeat (first | (with_reducible first | exact HB.out | apply below_alloc | apply pw_below_drewN | apply below_drew1) | exact HB.out))) : w.heap.size ≤ gb261))
                  clear HO255
                  clear HB
                  have HO255 := n0_
                  have HB := n1_
                  have BK261 := n2_
                  have GW261 := n3_
                  have GE261 := n4_
                  clear n0_ n1_ n2_ n3_ n4_
                  clear hb hbox hg
                  refine hK.out _ _ ⟨HS0_, HS1_, HS2_, HS3_, HS4_, HS5_, HS6_, HS7_, HS8_, HS9_⟩ (fun hHeld => ?_)
                  clear hK K
                  refine norm_ (a' := ?_) ?_ ?_
                  rotate_left
                  ·show Act.put _ (some 9) _ = _
                   simp only [Act.put, List.setIfInBounds_toArray, List.set_cons_zero, List.set_cons_succ, i64_w, i32_w]
                   rfl
                  exact norm_ (by first | (simp only [putAll, Act.put, List.setIfInBounds_toArray, List.set_cons_zero, List.set_cons_succ]; done) | (simp only [putAll, Act.put, List.setIfInBounds_toArray, List.set_cons_zero, List.set_cons_succ]; rfl)) (hJ4_14 (gb261) _ ⟨hHeld, (by (with_reducible repeat (first | apply Kd.R_alloc | apply Kd.R_drewN | apply Kd.R_drew)); exact Kd.R_mono HO255.out (fun _ hk => hk.2)), (by (with_reducible repeat (first | refine blk_drewN ?_ _ | refine blk_drew ?_ | refine blk_alloc ?_ _)); exact BK261.out), GW261.out, GE261.out, (by repeat (first | (with_reducible first | exact HB.out | apply below_alloc | apply pw_below_drewN | apply below_drew1 | refine below_set ?_ GE261.out) | exact HB.out))⟩)
                 ·skip
                  refine box_step ?hg (N := 10) ?hd (cs := #[.int .i64 0, .int .i64 0, .int .i64 0, .int .i64 0, .bool false]) (t := 28) ?hr ?_; (case hd => rfl); (case hg => rfl); (case hr => first | (go_simp; done) | (go_simp; rfl))
                  intro gb262 hg w29 hbox hb
                  have HS0_ := (hb.cell (World.block_lt_of_cell? _ _ (hHeld.1))).trans (hHeld.1)
                  have HS1_ := (hb.cell (World.block_lt_of_cell? _ _ (hHeld.2.1))).trans (hHeld.2.1)
                  have HS2_ := (hb.cell (World.block_lt_of_cell? _ _ (hHeld.2.2.1))).trans (hHeld.2.2.1)
                  have HS3_ := (hb.cell (World.block_lt_of_cell? _ _ (hHeld.2.2.2.1))).trans (hHeld.2.2.2.1)
                  have HS4_ := (hb.cell (World.block_lt_of_cell? _ _ (hHeld.2.2.2.2.1))).trans (hHeld.2.2.2.2.1)
                  have HS5_ := (hb.cell (World.block_lt_of_cell? _ _ (hHeld.2.2.2.2.2.1))).trans (hHeld.2.2.2.2.2.1)
                  have HS6_ := (hb.cell (World.block_lt_of_cell? _ _ (hHeld.2.2.2.2.2.2.1))).trans (hHeld.2.2.2.2.2.2.1)
                  have HS7_ := (hb.cell (World.block_lt_of_cell? _ _ (hHeld.2.2.2.2.2.2.2.1))).trans (hHeld.2.2.2.2.2.2.2.1)
                  have HS8_ := (hb.cell (World.block_lt_of_cell? _ _ (hHeld.2.2.2.2.2.2.2.2.1))).trans (hHeld.2.2.2.2.2.2.2.2.1)
                  have HS9_ := (hb.cell (World.block_lt_of_cell? _ _ (hHeld.2.2.2.2.2.2.2.2.2))).trans (hHeld.2.2.2.2.2.2.2.2.2)
                  have n0_ := Aside0.mk (Kd.R_below (Kd.R_elderB (by (with_reducible repeat (first | apply Kd.R_alloc | apply Kd.R_drewN | apply Kd.R_drew)); exact HO255.out) gb262 (Nat.le_of_eq hg.symm)) hb)
                  have n1_ := Aside0.mk (below_step (by repeat (first | (with_reducible first | exact HB.out | apply below_alloc | apply pw_below_drewN | apply below_drew1) | exact HB.out)) hb)
                  have n2_ := Aside0.mk (hbox)
                  have n3_ := Aside0.mk ((by rw [hg]; exact (below_size (by repeat (first | (with_reducible first | exact HB.out | apply below_alloc | apply pw_below_drewN | apply below_drew1) | exact HB.out))) : w.heap.size ≤ gb262))
                  have n4_ := Aside0.mk ((by rw [hg]; exact (below_size (by repeat (first | (with_reducible first | exact HB.out | apply below_alloc | apply pw_below_drewN | apply below_drew1) | exact HB.out))) : w.heap.size ≤ gb262))
                  clear HO255
                  clear HB
                  have HO255 := n0_
                  have HB := n1_
                  have BK262 := n2_
                  have GW262 := n3_
                  have GE262 := n4_
                  clear n0_ n1_ n2_ n3_ n4_
                  clear hb hbox hg
                  refine hK.out _ _ ⟨HS0_, HS1_, HS2_, HS3_, HS4_, HS5_, HS6_, HS7_, HS8_, HS9_⟩ (fun hHeld => ?_)
                  clear hK K
                  refine norm_ (a' := ?_) ?_ ?_
                  rotate_left
                  ·show Act.put _ (some 10) _ = _
                   simp only [Act.put, List.setIfInBounds_toArray, List.set_cons_zero, List.set_cons_succ, i64_w, i32_w]
                   rfl
                  exact norm_ (by first | (simp only [putAll, Act.put, List.setIfInBounds_toArray, List.set_cons_zero, List.set_cons_succ]; done) | (simp only [putAll, Act.put, List.setIfInBounds_toArray, List.set_cons_zero, List.set_cons_succ]; rfl)) (hJ4_15 (gb262) _ ⟨hHeld, (by (with_reducible repeat (first | apply Kd.R_alloc | apply Kd.R_drewN | apply Kd.R_drew)); exact Kd.R_mono HO255.out (fun _ hk => hk.2)), (by (with_reducible repeat (first | refine blk_drewN ?_ _ | refine blk_drew ?_ | refine blk_alloc ?_ _)); exact BK262.out), GW262.out, GE262.out, (by repeat (first | (with_reducible first | exact HB.out | apply below_alloc | apply pw_below_drewN | apply below_drew1 | refine below_set ?_ GE262.out) | exact HB.out))⟩)
               ·skip
                rintro ⟨gb261, gb262⟩ w30 ⟨hS_, h0_, h1_, h2_, h3_, h4_, h5_, h6_, h7_, h8_, h9_⟩
                have n0_ : Aside0 (Kd.R k28 28 w30 w.heap.size (fun k_ => k_ ≠ gb261 ∧ k_ ≠ gb262) (.slice (some ad258) t252.length co26) t252) := ⟨h0_⟩
                have n1_ : Aside0 (w30.heap[gb261]? = some (.cells #[.int .i64 0, .int .i64 0, .int .i64 0, .int .i64 0, .bool false] 28 (0, 0))) := ⟨h1_⟩
                have n2_ : Aside0 (w30.heap[gb262]? = some (.cells #[.int .i64 0, .int .i64 0, .int .i64 0, .int .i64 0, .bool false] 28 (0, 0))) := ⟨h2_⟩
                have n3_ : Aside0 (w.heap.size ≤ gb261) := ⟨h3_⟩
                have n4_ : Aside0 (w.heap.size ≤ gb261) := ⟨h4_⟩
                have n5_ : Aside0 (gb262 ≠ gb261) := ⟨h5_⟩
                have n6_ : Aside0 (gb261 ≠ gb262) := ⟨h6_⟩
                have n7_ : Aside0 (w.heap.size ≤ gb262) := ⟨h7_⟩
                have n8_ : Aside0 (w.heap.size ≤ gb262) := ⟨h8_⟩
                have n9_ : Aside0 (Below w.heap.size w w30) := ⟨h9_⟩
                clear HO255
                clear HB
                clear h0_ h1_ h2_ h3_ h4_ h5_ h6_ h7_ h8_ h9_
                have HO255 := n0_
                have BK261 := n1_
                have BK262 := n2_
                have GW261 := n3_
                have GE261 := n4_
                have NB262_261 := n5_
                have NB261_262 := n6_
                have GW262 := n7_
                have GE262 := n8_
                have HB := n9_
                clear n0_ n1_ n2_ n3_ n4_ n5_ n6_ n7_ n8_ n9_
                have hHeld : w30.cell? (ad258.add ((t257).toNat * 5)) = some (.int .i64 ((rd_T28 t252 t257).f0)) ∧ w30.cell? ⟨(ad258.add ((t257).toNat * 5)).block, (ad258.add ((t257).toNat * 5)).off + 1, none⟩ = some (.int .i64 ((rd_T28 t252 t257).f1)) ∧ w30.cell? ⟨(ad258.add ((t257).toNat * 5)).block, (ad258.add ((t257).toNat * 5)).off + 2, none⟩ = some (.int .i64 ((rd_T28 t252 t257).f2)) ∧ w30.cell? ⟨(ad258.add ((t257).toNat * 5)).block, (ad258.add ((t257).toNat * 5)).off + 3, none⟩ = some (.int .i64 ((rd_T28 t252 t257).f3)) ∧ w30.cell? ⟨(ad258.add ((t257).toNat * 5)).block, (ad258.add ((t257).toNat * 5)).off + 4, none⟩ = some (.bool ((rd_T28 t252 t257).f4)) ∧ w30.cell? (ad258.add ((t259).toNat * 5)) = some (.int .i64 ((rd_T28 t252 t259).f0)) ∧ w30.cell? ⟨(ad258.add ((t259).toNat * 5)).block, (ad258.add ((t259).toNat * 5)).off + 1, none⟩ = some (.int .i64 ((rd_T28 t252 t259).f1)) ∧ w30.cell? ⟨(ad258.add ((t259).toNat * 5)).block, (ad258.add ((t259).toNat * 5)).off + 2, none⟩ = some (.int .i64 ((rd_T28 t252 t259).f2)) ∧ w30.cell? ⟨(ad258.add ((t259).toNat * 5)).block, (ad258.add ((t259).toNat * 5)).off + 3, none⟩ = some (.int .i64 ((rd_T28 t252 t259).f3)) ∧ w30.cell? ⟨(ad258.add ((t259).toNat * 5)).block, (ad258.add ((t259).toNat * 5)).off + 4, none⟩ = some (.bool ((rd_T28 t252 t259).f4)) := hS_
                refine norm_ (a' := ?_) ?_ ?_
                rotate_left
                ·simp only [putAll, Act.put, List.setIfInBounds_toArray, List.set_cons_zero, List.set_cons_succ]
                 rfl
                refine one_ (i := 4) (N := some 28) #[true, true, true, true, true, false, false, true, true, true, true, false, false, false, true, true, false, false] rfl rfl (one_of HT_.out (by kernel_rfl)) (by decide) (fun K hK => ?_)
                refine goes_ Try.func11 (by kernel_rfl) rfl #[.int .i64 a1, .int .i64 (t252.length : Int)] (by rfl) rfl rfl (by (try simp only [List.map_toArray, List.map_cons, List.map_nil]); first | done | rfl | (simp only [List.length_drop, List.length_take]; rfl)) ?_
                with_reducible refine (chirographkeep_picked.calls a1 (t252.length : Int) t257 _ A11.out).mono ?_
                rintro e w' ⟨rfl, ⟨nd, rfl⟩⟩
                refine ⟨_, rfl, ?_⟩
                refine hK.out _ _ ⟨hHeld.1, hHeld.2.1, hHeld.2.2.1, hHeld.2.2.2.1, hHeld.2.2.2.2.1, hHeld.2.2.2.2.2.1, hHeld.2.2.2.2.2.2.1, hHeld.2.2.2.2.2.2.2.1, hHeld.2.2.2.2.2.2.2.2.1, hHeld.2.2.2.2.2.2.2.2.2⟩ (fun hHeld => ?_)
                clear hK K
                refine norm_ (a' := ?_) ?_ ?_
                rotate_left
                ·show Act.put _ (some 28) _ = _
                 simp only [Act.put, List.setIfInBounds_toArray, List.set_cons_zero, List.set_cons_succ, i64_w, i32_w]
                 rfl
                refine pure_ (i := 5) (N := some 29) (v := ?_) (a' := ?_) #[true, true, true, true, true, true, false, true, true, true, true, false, false, false, true, true, false, false] rfl rfl (any_of HT_.out (by kernel_rfl)) (fun _ _ _ h => h) (Or.inl ⟨by rfl, ?_⟩) ?_ ?_
                rotate_left
                ·intro w'
                 go_simp
                 with_reducible rfl
                rotate_left
                ·simp only [Act.put, List.setIfInBounds_toArray, List.set_cons_zero, List.set_cons_succ, i64_w, i32_w]
                 rfl
                refine take_ (i := 6) (N := some 30) (v := ?_) (a' := ?_) #[true, true, true, true, true, true, true, true, true, true, true, false, false, false, true, true, false, false] rfl rfl (take_ofW HT_.out HW_.out (by kernel_rfl)) (fun _ _ _ h => h) (Or.inl ⟨by rfl, ?_⟩) hHeld ?_ ?_
                rotate_left
                ·rintro w' ⟨s0, s1, s2, s3, s4, s5, s6, s7, s8, s9⟩
                 go_simp
                 with_reducible rfl
                rotate_left
                ·simp only [Act.put, List.setIfInBounds_toArray, List.set_cons_zero, List.set_cons_succ, i64_w, i32_w]
                 rfl
                exact norm_ (by first | (simp only [putAll, Act.put, List.setIfInBounds_toArray, List.set_cons_zero, List.set_cons_succ]; done) | (simp only [putAll, Act.put, List.setIfInBounds_toArray, List.set_cons_zero, List.set_cons_succ]; rfl)) (hJ4_14_15 (gb261, gb262) _ ⟨hHeld, (by (with_reducible repeat (first | apply Kd.R_alloc | apply Kd.R_drewN | apply Kd.R_drew)); exact HO255.out), (by (with_reducible repeat (first | refine blk_drewN ?_ _ | refine blk_drew ?_ | refine blk_alloc ?_ _)); exact BK261.out), (by (with_reducible repeat (first | refine blk_drewN ?_ _ | refine blk_drew ?_ | refine blk_alloc ?_ _)); exact BK262.out), GW261.out, GE261.out, NB262_261.out, NB261_262.out, GW262.out, GE262.out, (by repeat (first | (with_reducible first | exact HB.out | apply below_alloc | apply pw_below_drewN | apply below_drew1 | refine below_set ?_ GE261.out | refine below_set ?_ GE262.out) | exact HB.out))⟩)
              ·skip
               rintro gb262 w29 ⟨hS_, h0_, h1_, h2_, h3_, h4_⟩
               have n0_ : Aside0 (Kd.R k28 28 w29 w.heap.size (fun k_ => k_ ≠ gb262) (.slice (some ad258) t252.length co26) t252) := ⟨h0_⟩
               have n1_ : Aside0 (w29.heap[gb262]? = some (.cells #[.int .i64 0, .int .i64 0, .int .i64 0, .int .i64 0, .bool false] 28 (0, 0))) := ⟨h1_⟩
               have n2_ : Aside0 (w.heap.size ≤ gb262) := ⟨h2_⟩
               have n3_ : Aside0 (w.heap.size ≤ gb262) := ⟨h3_⟩
               have n4_ : Aside0 (Below w.heap.size w w29) := ⟨h4_⟩
               clear HO255
               clear HB
               clear h0_ h1_ h2_ h3_ h4_
               have HO255 := n0_
               have BK262 := n1_
               have GW262 := n2_
               have GE262 := n3_
               have HB := n4_
               clear n0_ n1_ n2_ n3_ n4_
               have hHeld : w29.cell? (ad258.add ((t257).toNat * 5)) = some (.int .i64 ((rd_T28 t252 t257).f0)) ∧ w29.cell? ⟨(ad258.add ((t257).toNat * 5)).block, (ad258.add ((t257).toNat * 5)).off + 1, none⟩ = some (.int .i64 ((rd_T28 t252 t257).f1)) ∧ w29.cell? ⟨(ad258.add ((t257).toNat * 5)).block, (ad258.add ((t257).toNat * 5)).off + 2, none⟩ = some (.int .i64 ((rd_T28 t252 t257).f2)) ∧ w29.cell? ⟨(ad258.add ((t257).toNat * 5)).block, (ad258.add ((t257).toNat * 5)).off + 3, none⟩ = some (.int .i64 ((rd_T28 t252 t257).f3)) ∧ w29.cell? ⟨(ad258.add ((t257).toNat * 5)).block, (ad258.add ((t257).toNat * 5)).off + 4, none⟩ = some (.bool ((rd_T28 t252 t257).f4)) ∧ w29.cell? (ad258.add ((t259).toNat * 5)) = some (.int .i64 ((rd_T28 t252 t259).f0)) ∧ w29.cell? ⟨(ad258.add ((t259).toNat * 5)).block, (ad258.add ((t259).toNat * 5)).off + 1, none⟩ = some (.int .i64 ((rd_T28 t252 t259).f1)) ∧ w29.cell? ⟨(ad258.add ((t259).toNat * 5)).block, (ad258.add ((t259).toNat * 5)).off + 2, none⟩ = some (.int .i64 ((rd_T28 t252 t259).f2)) ∧ w29.cell? ⟨(ad258.add ((t259).toNat * 5)).block, (ad258.add ((t259).toNat * 5)).off + 3, none⟩ = some (.int .i64 ((rd_T28 t252 t259).f3)) ∧ w29.cell? ⟨(ad258.add ((t259).toNat * 5)).block, (ad258.add ((t259).toNat * 5)).off + 4, none⟩ = some (.bool ((rd_T28 t252 t259).f4)) := hS_
               refine norm_ (a' := ?_) ?_ ?_
               rotate_left
               ·simp only [putAll, Act.put, List.setIfInBounds_toArray, List.set_cons_zero, List.set_cons_succ]
                rfl
               refine two_ (i := 11) (j := 14) (Ni := some 35) (Nj := some 9) #[true, true, true, true, true, true, true, true, true, true, true, true, false, false, false, true, false, false] #[true, true, true, true, true, true, true, true, true, true, true, false, false, false, true, true, false, false] rfl rfl rfl rfl (two_of HT_.out (by kernel_rfl)) (by decide) (by decide) (fun K hK => ?_) (fun K hK => ?_)
               ·skip
                refine goes_ Try.func11 (by kernel_rfl) rfl #[.int .i64 a2, .int .i64 (t252.length : Int)] (by rfl) rfl rfl (by (try simp only [List.map_toArray, List.map_cons, List.map_nil]); first | done | rfl | (simp only [List.length_drop, List.length_take]; rfl)) ?_
                with_reducible refine (chirographkeep_picked.calls a2 (t252.length : Int) t259 _ A14.out).mono ?_
                rintro e w' ⟨rfl, ⟨nd, rfl⟩⟩
                refine ⟨_, rfl, ?_⟩
                refine hK.out _ _ ⟨hHeld.1, hHeld.2.1, hHeld.2.2.1, hHeld.2.2.2.1, hHeld.2.2.2.2.1, hHeld.2.2.2.2.2.1, hHeld.2.2.2.2.2.2.1, hHeld.2.2.2.2.2.2.2.1, hHeld.2.2.2.2.2.2.2.2.1, hHeld.2.2.2.2.2.2.2.2.2⟩ (fun hHeld => ?_)
                clear hK K
                refine norm_ (a' := ?_) ?_ ?_
                rotate_left
                ·show Act.put _ (some 35) _ = _
                 simp only [Act.put, List.setIfInBounds_toArray, List.set_cons_zero, List.set_cons_succ, i64_w, i32_w]
                 rfl
                refine pure_ (i := 12) (N := some 36) (v := ?_) (a' := ?_) #[true, true, true, true, true, true, true, true, true, true, true, true, true, false, false, true, false, false] rfl rfl (any_of HT_.out (by kernel_rfl)) (fun _ _ _ h => h) (Or.inl ⟨by rfl, ?_⟩) ?_ ?_
                rotate_left
                ·intro w'
                 go_simp
                 with_reducible rfl
                rotate_left
                ·simp only [Act.put, List.setIfInBounds_toArray, List.set_cons_zero, List.set_cons_succ, i64_w, i32_w]
                 rfl
                refine take_ (i := 13) (N := some 37) (v := ?_) (a' := ?_) #[true, true, true, true, true, true, true, true, true, true, true, true, true, true, false, true, false, false] rfl rfl (take_ofW HT_.out HW_.out (by kernel_rfl)) (fun _ _ _ h => h) (Or.inl ⟨by rfl, ?_⟩) hHeld ?_ ?_
                rotate_left
                ·rintro w' ⟨s0, s1, s2, s3, s4, s5, s6, s7, s8, s9⟩
                 go_simp
                 with_reducible rfl
                rotate_left
                ·simp only [Act.put, List.setIfInBounds_toArray, List.set_cons_zero, List.set_cons_succ, i64_w, i32_w]
                 rfl
                exact norm_ (by first | (simp only [putAll, Act.put, List.setIfInBounds_toArray, List.set_cons_zero, List.set_cons_succ]; done) | (simp only [putAll, Act.put, List.setIfInBounds_toArray, List.set_cons_zero, List.set_cons_succ]; rfl)) (hJ4_11_15 (gb262) _ ⟨hHeld, (by (with_reducible repeat (first | apply Kd.R_alloc | apply Kd.R_drewN | apply Kd.R_drew)); exact HO255.out), (by (with_reducible repeat (first | refine blk_drewN ?_ _ | refine blk_drew ?_ | refine blk_alloc ?_ _)); exact BK262.out), GW262.out, GE262.out, (by repeat (first | (with_reducible first | exact HB.out | apply below_alloc | apply pw_below_drewN | apply below_drew1 | refine below_set ?_ GE262.out) | exact HB.out))⟩)
               ·skip
                refine box_step ?hg (N := 9) ?hd (cs := #[.int .i64 0, .int .i64 0, .int .i64 0, .int .i64 0, .bool false]) (t := 28) ?hr ?_; (case hd => rfl); (case hg => rfl); (case hr => first | (go_simp; done) | (go_simp; rfl))
                intro gb261 hg w30 hbox hb
                have HS0_ := (hb.cell (World.block_lt_of_cell? _ _ (hHeld.1))).trans (hHeld.1)
                have HS1_ := (hb.cell (World.block_lt_of_cell? _ _ (hHeld.2.1))).trans (hHeld.2.1)
                have HS2_ := (hb.cell (World.block_lt_of_cell? _ _ (hHeld.2.2.1))).trans (hHeld.2.2.1)
                have HS3_ := (hb.cell (World.block_lt_of_cell? _ _ (hHeld.2.2.2.1))).trans (hHeld.2.2.2.1)
                have HS4_ := (hb.cell (World.block_lt_of_cell? _ _ (hHeld.2.2.2.2.1))).trans (hHeld.2.2.2.2.1)
                have HS5_ := (hb.cell (World.block_lt_of_cell? _ _ (hHeld.2.2.2.2.2.1))).trans (hHeld.2.2.2.2.2.1)
                have HS6_ := (hb.cell (World.block_lt_of_cell? _ _ (hHeld.2.2.2.2.2.2.1))).trans (hHeld.2.2.2.2.2.2.1)
                have HS7_ := (hb.cell (World.block_lt_of_cell? _ _ (hHeld.2.2.2.2.2.2.2.1))).trans (hHeld.2.2.2.2.2.2.2.1)
                have HS8_ := (hb.cell (World.block_lt_of_cell? _ _ (hHeld.2.2.2.2.2.2.2.2.1))).trans (hHeld.2.2.2.2.2.2.2.2.1)
                have HS9_ := (hb.cell (World.block_lt_of_cell? _ _ (hHeld.2.2.2.2.2.2.2.2.2))).trans (hHeld.2.2.2.2.2.2.2.2.2)
                have n0_ := Aside0.mk (Kd.R_below (Kd.R_elderB (by (with_reducible repeat (first | apply Kd.R_alloc | apply Kd.R_drewN | apply Kd.R_drew)); exact HO255.out) gb261 (Nat.le_of_eq hg.symm)) hb)
                have n1_ := Aside0.mk (blk_below (g := gb262) (o := .cells #[.int .i64 0, .int .i64 0, .int .i64 0, .int .i64 0, .bool false] 28 (0, 0)) (by (with_reducible repeat (first | refine blk_drewN ?_ _ | refine blk_drew ?_ | refine blk_alloc ?_ _)); exact BK262.out) hb)
                have n2_ := Aside0.mk (below_step (by repeat (first | (with_reducible first | exact HB.out | apply below_alloc | apply pw_below_drewN | apply below_drew1 | refine below_set ?_ GE262.out) | exact HB.out)) hb)
                have n3_ := Aside0.mk (hbox)
                have n4_ := Aside0.mk ((by rw [hg]; exact (below_size (by repeat (first | (with_reducible first | exact HB.out | apply below_alloc | apply pw_below_drewN | apply below_drew1 | refine below_set ?_ GE262.out) | exact HB.out))) : w.heap.size ≤ gb261))
                have n5_ := Aside0.mk ((by rw [hg]; exact (below_size (by repeat (first | (with_reducible first | exact HB.out | apply below_alloc | apply pw_below_drewN | apply below_drew1 | refine below_set ?_ GE262.out) | exact HB.out))) : w.heap.size ≤ gb261))
                have n6_ := Aside0.mk ((by rw [hg]; exact Nat.ne_of_lt (blk_lt (g := gb262) (o := .cells #[.int .i64 0, .int .i64 0, .int .i64 0, .int .i64 0, .bool false] 28 (0, 0)) (by (with_reducible repeat (first | refine blk_drewN ?_ _ | refine blk_drew ?_ | refine blk_alloc ?_ _)); exact BK262.out)) : gb262 ≠ gb261))
                have n7_ := Aside0.mk ((by rw [hg]; exact Nat.ne_of_gt (blk_lt (g := gb262) (o := .cells #[.int .i64 0, .int .i64 0, .int .i64 0, .int .i64 0, .bool false] 28 (0, 0)) (by (with_reducible repeat (first | refine blk_drewN ?_ _ | refine blk_drew ?_ | refine blk_alloc ?_ _)); exact BK262.out)) : gb261 ≠ gb262))
                clear HO255
                clear BK262
                clear HB
                have HO255 := n0_
                have BK262 := n1_
                have HB := n2_
                have BK261 := n3_
                have GW261 := n4_
                have GE261 := n5_
                have NB262_261 := n6_
                have NB261_262 := n7_
                clear n0_ n1_ n2_ n3_ n4_ n5_ n6_ n7_
                clear hb hbox hg
                refine hK.out _ _ ⟨HS0_, HS1_, HS2_, HS3_, HS4_, HS5_, HS6_, HS7_, HS8_, HS9_⟩ (fun hHeld => ?_)
                clear hK K
                refine norm_ (a' := ?_) ?_ ?_
                rotate_left
                ·show Act.put _ (some 9) _ = _
                 simp only [Act.put, List.setIfInBounds_toArray, List.set_cons_zero, List.set_cons_succ, i64_w, i32_w]
                 rfl
                exact norm_ (by first | (simp only [putAll, Act.put, List.setIfInBounds_toArray, List.set_cons_zero, List.set_cons_succ]; done) | (simp only [putAll, Act.put, List.setIfInBounds_toArray, List.set_cons_zero, List.set_cons_succ]; rfl)) (hJ4_14_15 (gb261, gb262) _ ⟨hHeld, (by (with_reducible repeat (first | apply Kd.R_alloc | apply Kd.R_drewN | apply Kd.R_drew)); exact Kd.R_mono HO255.out (fun _ hk => ⟨hk.2, hk.1⟩)), (by (with_reducible repeat (first | refine blk_drewN ?_ _ | refine blk_drew ?_ | refine blk_alloc ?_ _)); exact BK261.out), (by (with_reducible repeat (first | refine blk_drewN ?_ _ | refine blk_drew ?_ | refine blk_alloc ?_ _)); exact BK262.out), GW261.out, GE261.out, NB262_261.out, NB261_262.out, GW262.out, GE262.out, (by repeat (first | (with_reducible first | exact HB.out | apply below_alloc | apply pw_below_drewN | apply below_drew1 | refine below_set ?_ GE262.out | refine below_set ?_ GE261.out) | exact HB.out))⟩)
             ·skip
              rintro gb261 w29 ⟨hS_, h0_, h1_, h2_, h3_, h4_⟩
              have n0_ : Aside0 (Kd.R k28 28 w29 w.heap.size (fun k_ => k_ ≠ gb261) (.slice (some ad258) t252.length co26) t252) := ⟨h0_⟩
              have n1_ : Aside0 (w29.heap[gb261]? = some (.cells #[.int .i64 0, .int .i64 0, .int .i64 0, .int .i64 0, .bool false] 28 (0, 0))) := ⟨h1_⟩
              have n2_ : Aside0 (w.heap.size ≤ gb261) := ⟨h2_⟩
              have n3_ : Aside0 (w.heap.size ≤ gb261) := ⟨h3_⟩
              have n4_ : Aside0 (Below w.heap.size w w29) := ⟨h4_⟩
              clear HO255
              clear HB
              clear h0_ h1_ h2_ h3_ h4_
              have HO255 := n0_
              have BK261 := n1_
              have GW261 := n2_
              have GE261 := n3_
              have HB := n4_
              clear n0_ n1_ n2_ n3_ n4_
              have hHeld : w29.cell? (ad258.add ((t257).toNat * 5)) = some (.int .i64 ((rd_T28 t252 t257).f0)) ∧ w29.cell? ⟨(ad258.add ((t257).toNat * 5)).block, (ad258.add ((t257).toNat * 5)).off + 1, none⟩ = some (.int .i64 ((rd_T28 t252 t257).f1)) ∧ w29.cell? ⟨(ad258.add ((t257).toNat * 5)).block, (ad258.add ((t257).toNat * 5)).off + 2, none⟩ = some (.int .i64 ((rd_T28 t252 t257).f2)) ∧ w29.cell? ⟨(ad258.add ((t257).toNat * 5)).block, (ad258.add ((t257).toNat * 5)).off + 3, none⟩ = some (.int .i64 ((rd_T28 t252 t257).f3)) ∧ w29.cell? ⟨(ad258.add ((t257).toNat * 5)).block, (ad258.add ((t257).toNat * 5)).off + 4, none⟩ = some (.bool ((rd_T28 t252 t257).f4)) ∧ w29.cell? (ad258.add ((t259).toNat * 5)) = some (.int .i64 ((rd_T28 t252 t259).f0)) ∧ w29.cell? ⟨(ad258.add ((t259).toNat * 5)).block, (ad258.add ((t259).toNat * 5)).off + 1, none⟩ = some (.int .i64 ((rd_T28 t252 t259).f1)) ∧ w29.cell? ⟨(ad258.add ((t259).toNat * 5)).block, (ad258.add ((t259).toNat * 5)).off + 2, none⟩ = some (.int .i64 ((rd_T28 t252 t259).f2)) ∧ w29.cell? ⟨(ad258.add ((t259).toNat * 5)).block, (ad258.add ((t259).toNat * 5)).off + 3, none⟩ = some (.int .i64 ((rd_T28 t252 t259).f3)) ∧ w29.cell? ⟨(ad258.add ((t259).toNat * 5)).block, (ad258.add ((t259).toNat * 5)).off + 4, none⟩ = some (.bool ((rd_T28 t252 t259).f4)) := hS_
              refine norm_ (a' := ?_) ?_ ?_
              rotate_left
              ·simp only [putAll, Act.put, List.setIfInBounds_toArray, List.set_cons_zero, List.set_cons_succ]
               rfl
              refine two_ (i := 11) (j := 15) (Ni := some 35) (Nj := some 10) #[true, true, true, true, true, true, true, true, true, true, true, true, false, false, true, false, false, false] #[true, true, true, true, true, true, true, true, true, true, true, false, false, false, true, true, false, false] rfl rfl rfl rfl (two_of HT_.out (by kernel_rfl)) (by decide) (by decide) (fun K hK => ?_) (fun K hK => ?_)
              ·skip
               refine goes_ Try.func11 (by kernel_rfl) rfl #[.int .i64 a2, .int .i64 (t252.length : Int)] (by rfl) rfl rfl (by (try simp only [List.map_toArray, List.map_cons, List.map_nil]); first | done | rfl | (simp only [List.length_drop, List.length_take]; rfl)) ?_
               with_reducible refine (chirographkeep_picked.calls a2 (t252.length : Int) t259 _ A14.out).mono ?_
               rintro e w' ⟨rfl, ⟨nd, rfl⟩⟩
               refine ⟨_, rfl, ?_⟩
               refine hK.out _ _ ⟨hHeld.1, hHeld.2.1, hHeld.2.2.1, hHeld.2.2.2.1, hHeld.2.2.2.2.1, hHeld.2.2.2.2.2.1, hHeld.2.2.2.2.2.2.1, hHeld.2.2.2.2.2.2.2.1, hHeld.2.2.2.2.2.2.2.2.1, hHeld.2.2.2.2.2.2.2.2.2⟩ (fun hHeld => ?_)
               clear hK K
               refine norm_ (a' := ?_) ?_ ?_
               rotate_left
               ·show Act.put _ (some 35) _ = _
                simp only [Act.put, List.setIfInBounds_toArray, List.set_cons_zero, List.set_cons_succ, i64_w, i32_w]
                rfl
               refine pure_ (i := 12) (N := some 36) (v := ?_) (a' := ?_) #[true, true, true, true, true, true, true, true, true, true, true, true, true, false, true, false, false, false] rfl rfl (any_of HT_.out (by kernel_rfl)) (fun _ _ _ h => h) (Or.inl ⟨by rfl, ?_⟩) ?_ ?_
               rotate_left
               ·intro w'
                go_simp
                with_reducible rfl
               rotate_left
               ·simp only [Act.put, List.setIfInBounds_toArray, List.set_cons_zero, List.set_cons_succ, i64_w, i32_w]
                rfl
               refine take_ (i := 13) (N := some 37) (v := ?_) (a' := ?_) #[true, true, true, true, true, true, true, true, true, true, true, true, true, true, true, false, false, false] rfl rfl (take_ofW HT_.out HW_.out (by kernel_rfl)) (fun _ _ _ h => h) (Or.inl ⟨by rfl, ?_⟩) hHeld ?_ ?_
               rotate_left
               ·rintro w' ⟨s0, s1, s2, s3, s4, s5, s6, s7, s8, s9⟩
                go_simp
                with_reducible rfl
               rotate_left
               ·simp only [Act.put, List.setIfInBounds_toArray, List.set_cons_zero, List.set_cons_succ, i64_w, i32_w]
                rfl
               exact norm_ (by first | (simp only [putAll, Act.put, List.setIfInBounds_toArray, List.set_cons_zero, List.set_cons_succ]; done) | (simp only [putAll, Act.put, List.setIfInBounds_toArray, List.set_cons_zero, List.set_cons_succ]; rfl)) (hJ4_11_14 (gb261) _ ⟨hHeld, (by (with_reducible repeat (first | apply Kd.R_alloc | apply Kd.R_drewN | apply Kd.R_drew)); exact HO255.out), (by (with_reducible repeat (first | refine blk_drewN ?_ _ | refine blk_drew ?_ | refine blk_alloc ?_ _)); exact BK261.out), GW261.out, GE261.out, (by repeat (first | (with_reducible first | exact HB.out | apply below_alloc | apply pw_below_drewN | apply below_drew1 | refine below_set ?_ GE261.out) | exact HB.out))⟩)
              ·skip
               refine box_step ?hg (N := 10) ?hd (cs := #[.int .i64 0, .int .i64 0, .int .i64 0, .int .i64 0, .bool false]) (t := 28) ?hr ?_; (case hd => rfl); (case hg => rfl); (case hr => first | (go_simp; done) | (go_simp; rfl))
               intro gb262 hg w30 hbox hb
               have HS0_ := (hb.cell (World.block_lt_of_cell? _ _ (hHeld.1))).trans (hHeld.1)
               have HS1_ := (hb.cell (World.block_lt_of_cell? _ _ (hHeld.2.1))).trans (hHeld.2.1)
               have HS2_ := (hb.cell (World.block_lt_of_cell? _ _ (hHeld.2.2.1))).trans (hHeld.2.2.1)
               have HS3_ := (hb.cell (World.block_lt_of_cell? _ _ (hHeld.2.2.2.1))).trans (hHeld.2.2.2.1)
               have HS4_ := (hb.cell (World.block_lt_of_cell? _ _ (hHeld.2.2.2.2.1))).trans (hHeld.2.2.2.2.1)
               have HS5_ := (hb.cell (World.block_lt_of_cell? _ _ (hHeld.2.2.2.2.2.1))).trans (hHeld.2.2.2.2.2.1)
               have HS6_ := (hb.cell (World.block_lt_of_cell? _ _ (hHeld.2.2.2.2.2.2.1))).trans (hHeld.2.2.2.2.2.2.1)
               have HS7_ := (hb.cell (World.block_lt_of_cell? _ _ (hHeld.2.2.2.2.2.2.2.1))).trans (hHeld.2.2.2.2.2.2.2.1)
               have HS8_ := (hb.cell (World.block_lt_of_cell? _ _ (hHeld.2.2.2.2.2.2.2.2.1))).trans (hHeld.2.2.2.2.2.2.2.2.1)
               have HS9_ := (hb.cell (World.block_lt_of_cell? _ _ (hHeld.2.2.2.2.2.2.2.2.2))).trans (hHeld.2.2.2.2.2.2.2.2.2)
               have n0_ := Aside0.mk (Kd.R_below (Kd.R_elderB (by (with_reducible repeat (first | apply Kd.R_alloc | apply Kd.R_drewN | apply Kd.R_drew)); exact HO255.out) gb262 (Nat.le_of_eq hg.symm)) hb)
               have n1_ := Aside0.mk (blk_below (g := gb261) (o := .cells #[.int .i64 0, .int .i64 0, .int .i64 0, .int .i64 0, .bool false] 28 (0, 0)) (by (with_reducible repeat (first | refine blk_drewN ?_ _ | refine blk_drew ?_ | refine blk_alloc ?_ _)); exact BK261.out) hb)
               have n2_ := Aside0.mk (below_step (by repeat (first | (with_reducible first | exact HB.out | apply below_alloc | apply pw_below_drewN | apply below_drew1 | refine below_set ?_ GE261.out) | exact HB.out)) hb)
               have n3_ := Aside0.mk (hbox)
               have n4_ := Aside0.mk ((by rw [hg]; exact (below_size (by repeat (first | (with_reducible first | exact HB.out | apply below_alloc | apply pw_below_drewN | apply below_drew1 | refine below_set ?_ GE261.out) | exact HB.out))) : w.heap.size ≤ gb262))
               have n5_ := Aside0.mk ((by rw [hg]; exact (below_size (by repeat (first | (with_reducible first | exact HB.out | apply below_alloc | apply pw_below_drewN | apply below_drew1 | refine below_set ?_ GE261.out) | exact HB.out))) : w.heap.size ≤ gb262))
               have n6_ := Aside0.mk ((by rw [hg]; exact Nat.ne_of_lt (blk_lt (g := gb261) (o := .cells #[.int .i64 0, .int .i64 0, .int .i64 0, .int .i64 0, .bool false] 28 (0, 0)) (by (with_reducible repeat (first | refine blk_drewN ?_ _ | refine blk_drew ?_ | refine blk_alloc ?_ _)); exact BK261.out)) : gb261 ≠ gb262))
               have n7_ := Aside0.mk ((by rw [hg]; exact Nat.ne_of_gt (blk_lt (g := gb261) (o := .cells #[.int .i64 0, .int .i64 0, .int .i64 0, .int .i64 0, .bool false] 28 (0, 0)) (by (with_reducible repeat (first | refine blk_drewN ?_ _ | refine blk_drew ?_ | refine blk_alloc ?_ _)); exact BK261.out)) : gb262 ≠ gb261))
               clear HO255
               clear BK261
               clear HB
               have HO255 := n0_
               have BK261 := n1_
               have HB := n2_
               have BK262 := n3_
               have GW262 := n4_
               have GE262 := n5_
               have NB261_262 := n6_
               have NB262_261 := n7_
               clear n0_ n1_ n2_ n3_ n4_ n5_ n6_ n7_
               clear hb hbox hg
               refine hK.out _ _ ⟨HS0_, HS1_, HS2_, HS3_, HS4_, HS5_, HS6_, HS7_, HS8_, HS9_⟩ (fun hHeld => ?_)
               clear hK K
               refine norm_ (a' := ?_) ?_ ?_
               rotate_left
               ·show Act.put _ (some 10) _ = _
                simp only [Act.put, List.setIfInBounds_toArray, List.set_cons_zero, List.set_cons_succ, i64_w, i32_w]
                rfl
               exact norm_ (by first | (simp only [putAll, Act.put, List.setIfInBounds_toArray, List.set_cons_zero, List.set_cons_succ]; done) | (simp only [putAll, Act.put, List.setIfInBounds_toArray, List.set_cons_zero, List.set_cons_succ]; rfl)) (hJ4_14_15 (gb261, gb262) _ ⟨hHeld, (by (with_reducible repeat (first | apply Kd.R_alloc | apply Kd.R_drewN | apply Kd.R_drew)); exact HO255.out), (by (with_reducible repeat (first | refine blk_drewN ?_ _ | refine blk_drew ?_ | refine blk_alloc ?_ _)); exact BK261.out), (by (with_reducible repeat (first | refine blk_drewN ?_ _ | refine blk_drew ?_ | refine blk_alloc ?_ _)); exact BK262.out), GW261.out, GE261.out, NB262_261.out, NB261_262.out, GW262.out, GE262.out, (by repeat (first | (with_reducible first | exact HB.out | apply below_alloc | apply pw_below_drewN | apply below_drew1 | refine below_set ?_ GE261.out | refine below_set ?_ GE262.out) | exact HB.out))⟩)
            ·skip
             rintro _ w28 ⟨hS_, h0_, h1_⟩
             have n0_ : Aside0 (Kd.R k28 28 w28 w.heap.size (fun _ => True) (.slice (some ad258) t252.length co26) t252) := ⟨h0_⟩
             have n1_ : Aside0 (Below w.heap.size w w28) := ⟨h1_⟩
             clear HO255
             clear HB
             clear h0_ h1_
             have HO255 := n0_
             have HB := n1_
             clear n0_ n1_
             have hHeld : w28.cell? (ad258.add ((t257).toNat * 5)) = some (.int .i64 ((rd_T28 t252 t257).f0)) ∧ w28.cell? ⟨(ad258.add ((t257).toNat * 5)).block, (ad258.add ((t257).toNat * 5)).off + 1, none⟩ = some (.int .i64 ((rd_T28 t252 t257).f1)) ∧ w28.cell? ⟨(ad258.add ((t257).toNat * 5)).block, (ad258.add ((t257).toNat * 5)).off + 2, none⟩ = some (.int .i64 ((rd_T28 t252 t257).f2)) ∧ w28.cell? ⟨(ad258.add ((t257).toNat * 5)).block, (ad258.add ((t257).toNat * 5)).off + 3, none⟩ = some (.int .i64 ((rd_T28 t252 t257).f3)) ∧ w28.cell? ⟨(ad258.add ((t257).toNat * 5)).block, (ad258.add ((t257).toNat * 5)).off + 4, none⟩ = some (.bool ((rd_T28 t252 t257).f4)) ∧ w28.cell? (ad258.add ((t259).toNat * 5)) = some (.int .i64 ((rd_T28 t252 t259).f0)) ∧ w28.cell? ⟨(ad258.add ((t259).toNat * 5)).block, (ad258.add ((t259).toNat * 5)).off + 1, none⟩ = some (.int .i64 ((rd_T28 t252 t259).f1)) ∧ w28.cell? ⟨(ad258.add ((t259).toNat * 5)).block, (ad258.add ((t259).toNat * 5)).off + 2, none⟩ = some (.int .i64 ((rd_T28 t252 t259).f2)) ∧ w28.cell? ⟨(ad258.add ((t259).toNat * 5)).block, (ad258.add ((t259).toNat * 5)).off + 3, none⟩ = some (.int .i64 ((rd_T28 t252 t259).f3)) ∧ w28.cell? ⟨(ad258.add ((t259).toNat * 5)).block, (ad258.add ((t259).toNat * 5)).off + 4, none⟩ = some (.bool ((rd_T28 t252 t259).f4)) := hS_
             refine norm_ (a' := ?_) ?_ ?_
             rotate_left
             ·simp only [putAll, Act.put, List.setIfInBounds_toArray, List.set_cons_zero, List.set_cons_succ]
              rfl
             refine two_ (i := 14) (j := 15) (Ni := some 9) (Nj := some 10) #[true, true, true, true, true, true, true, true, true, true, true, true, true, true, true, false, false, false] #[true, true, true, true, true, true, true, true, true, true, true, true, true, true, false, true, false, false] rfl rfl rfl rfl (two_of HT_.out (by kernel_rfl)) (by decide) (by decide) (fun K hK => ?_) (fun K hK => ?_)
             ·skip
              refine box_step ?hg (N := 9) ?hd (cs := #[.int .i64 0, .int .i64 0, .int .i64 0, .int .i64 0, .bool false]) (t := 28) ?hr ?_; (case hd => rfl); (case hg => rfl); (case hr => first | (go_simp; done) | (go_simp; rfl))
              intro gb261 hg w29 hbox hb
              have HS0_ := (hb.cell (World.block_lt_of_cell? _ _ (hHeld.1))).trans (hHeld.1)
              have HS1_ := (hb.cell (World.block_lt_of_cell? _ _ (hHeld.2.1))).trans (hHeld.2.1)
              have HS2_ := (hb.cell (World.block_lt_of_cell? _ _ (hHeld.2.2.1))).trans (hHeld.2.2.1)
              have HS3_ := (hb.cell (World.block_lt_of_cell? _ _ (hHeld.2.2.2.1))).trans (hHeld.2.2.2.1)
              have HS4_ := (hb.cell (World.block_lt_of_cell? _ _ (hHeld.2.2.2.2.1))).trans (hHeld.2.2.2.2.1)
              have HS5_ := (hb.cell (World.block_lt_of_cell? _ _ (hHeld.2.2.2.2.2.1))).trans (hHeld.2.2.2.2.2.1)
              have HS6_ := (hb.cell (World.block_lt_of_cell? _ _ (hHeld.2.2.2.2.2.2.1))).trans (hHeld.2.2.2.2.2.2.1)
              have HS7_ := (hb.cell (World.block_lt_of_cell? _ _ (hHeld.2.2.2.2.2.2.2.1))).trans (hHeld.2.2.2.2.2.2.2.1)
              have HS8_ := (hb.cell (World.block_lt_of_cell? _ _ (hHeld.2.2.2.2.2.2.2.2.1))).trans (hHeld.2.2.2.2.2.2.2.2.1)
              have HS9_ := (hb.cell (World.block_lt_of_cell? _ _ (hHeld.2.2.2.2.2.2.2.2.2))).trans (hHeld.2.2.2.2.2.2.2.2.2)
              have n0_ := Aside0.mk (Kd.R_below (Kd.R_elderB (by (with_reducible repeat (first | apply Kd.R_alloc | apply Kd.R_drewN | apply Kd.R_drew)); exact HO255.out) gb261 (Nat.le_of_eq hg.symm)) hb)
              have n1_ := Aside0.mk (below_step (by repeat (first | (with_reducible first | exact HB.out | apply below_alloc | apply pw_below_drewN | apply below_drew1) | exact HB.out)) hb)
              have n2_ := Aside0.mk (hbox)
              have n3_ := Aside0.mk ((by rw [hg]; exact (below_size (by repeat (first | (with_reducible first | exact HB.out | apply below_alloc | apply pw_below_drewN | apply below_drew1) | exact HB.out))) : w.heap.size ≤ gb261))
              have n4_ := Aside0.mk ((by rw [hg]; exact (below_size (by repeat (first | (with_reducible first | exact HB.out | apply below_alloc | apply pw_below_drewN | apply below_drew1) | exact HB.out))) : w.heap.size ≤ gb261))
              clear HO255
              clear HB
              have HO255 := n0_
              have HB := n1_
              have BK261 := n2_
              have GW261 := n3_
              have GE261 := n4_
              clear n0_ n1_ n2_ n3_ n4_
              clear hb hbox hg
              refine hK.out _ _ ⟨HS0_, HS1_, HS2_, HS3_, HS4_, HS5_, HS6_, HS7_, HS8_, HS9_⟩ (fun hHeld => ?_)
              clear hK K
              refine norm_ (a' := ?_) ?_ ?_
              rotate_left
              ·show Act.put _ (some 9) _ = _
               simp only [Act.put, List.setIfInBounds_toArray, List.set_cons_zero, List.set_cons_succ, i64_w, i32_w]
               rfl
              exact norm_ (by first | (simp only [putAll, Act.put, List.setIfInBounds_toArray, List.set_cons_zero, List.set_cons_succ]; done) | (simp only [putAll, Act.put, List.setIfInBounds_toArray, List.set_cons_zero, List.set_cons_succ]; rfl)) (hJ4_11_14 (gb261) _ ⟨hHeld, (by (with_reducible repeat (first | apply Kd.R_alloc | apply Kd.R_drewN | apply Kd.R_drew)); exact Kd.R_mono HO255.out (fun _ hk => hk.2)), (by (with_reducible repeat (first | refine blk_drewN ?_ _ | refine blk_drew ?_ | refine blk_alloc ?_ _)); exact BK261.out), GW261.out, GE261.out, (by repeat (first | (with_reducible first | exact HB.out | apply below_alloc | apply pw_below_drewN | apply below_drew1 | refine below_set ?_ GE261.out) | exact HB.out))⟩)
             ·skip
              refine box_step ?hg (N := 10) ?hd (cs := #[.int .i64 0, .int .i64 0, .int .i64 0, .int .i64 0, .bool false]) (t := 28) ?hr ?_; (case hd => rfl); (case hg => rfl); (case hr => first | (go_simp; done) | (go_simp; rfl))
              intro gb262 hg w29 hbox hb
              have HS0_ := (hb.cell (World.block_lt_of_cell? _ _ (hHeld.1))).trans (hHeld.1)
              have HS1_ := (hb.cell (World.block_lt_of_cell? _ _ (hHeld.2.1))).trans (hHeld.2.1)
              have HS2_ := (hb.cell (World.block_lt_of_cell? _ _ (hHeld.2.2.1))).trans (hHeld.2.2.1)
              have HS3_ := (hb.cell (World.block_lt_of_cell? _ _ (hHeld.2.2.2.1))).trans (hHeld.2.2.2.1)
              have HS4_ := (hb.cell (World.block_lt_of_cell? _ _ (hHeld.2.2.2.2.1))).trans (hHeld.2.2.2.2.1)
              have HS5_ := (hb.cell (World.block_lt_of_cell? _ _ (hHeld.2.2.2.2.2.1))).trans (hHeld.2.2.2.2.2.1)
              have HS6_ := (hb.cell (World.block_lt_of_cell? _ _ (hHeld.2.2.2.2.2.2.1))).trans (hHeld.2.2.2.2.2.2.1)
              have HS7_ := (hb.cell (World.block_lt_of_cell? _ _ (hHeld.2.2.2.2.2.2.2.1))).trans (hHeld.2.2.2.2.2.2.2.1)
              have HS8_ := (hb.cell (World.block_lt_of_cell? _ _ (hHeld.2.2.2.2.2.2.2.2.1))).trans (hHeld.2.2.2.2.2.2.2.2.1)
              have HS9_ := (hb.cell (World.block_lt_of_cell? _ _ (hHeld.2.2.2.2.2.2.2.2.2))).trans (hHeld.2.2.2.2.2.2.2.2.2)
              have n0_ := Aside0.mk (Kd.R_below (Kd.R_elderB (by (with_reducible repeat (first | apply Kd.R_alloc | apply Kd.R_drewN | apply Kd.R_drew)); exact HO255.out) gb262 (Nat.le_of_eq hg.symm)) hb)
              have n1_ := Aside0.mk (below_step (by repeat (first | (with_reducible first | exact HB.out | apply below_alloc | apply pw_below_drewN | apply below_drew1) | exact HB.out)) hb)
              have n2_ := Aside0.mk (hbox)
              have n3_ := Aside0.mk ((by rw [hg]; exact (below_size (by repeat (first | (with_reducible first | exact HB.out | apply below_alloc | apply pw_below_drewN | apply below_drew1) | exact HB.out))) : w.heap.size ≤ gb262))
              have n4_ := Aside0.mk ((by rw [hg]; exact (below_size (by repeat (first | (with_reducible first | exact HB.out | apply below_alloc | apply pw_below_drewN | apply below_drew1) | exact HB.out))) : w.heap.size ≤ gb262))
              clear HO255
              clear HB
              have HO255 := n0_
              have HB := n1_
              have BK262 := n2_
              have GW262 := n3_
              have GE262 := n4_
              clear n0_ n1_ n2_ n3_ n4_
              clear hb hbox hg
              refine hK.out _ _ ⟨HS0_, HS1_, HS2_, HS3_, HS4_, HS5_, HS6_, HS7_, HS8_, HS9_⟩ (fun hHeld => ?_)
              clear hK K
              refine norm_ (a' := ?_) ?_ ?_
              rotate_left
              ·show Act.put _ (some 10) _ = _
               simp only [Act.put, List.setIfInBounds_toArray, List.set_cons_zero, List.set_cons_succ, i64_w, i32_w]
               rfl
              exact norm_ (by first | (simp only [putAll, Act.put, List.setIfInBounds_toArray, List.set_cons_zero, List.set_cons_succ]; done) | (simp only [putAll, Act.put, List.setIfInBounds_toArray, List.set_cons_zero, List.set_cons_succ]; rfl)) (hJ4_11_15 (gb262) _ ⟨hHeld, (by (with_reducible repeat (first | apply Kd.R_alloc | apply Kd.R_drewN | apply Kd.R_drew)); exact Kd.R_mono HO255.out (fun _ hk => hk.2)), (by (with_reducible repeat (first | refine blk_drewN ?_ _ | refine blk_drew ?_ | refine blk_alloc ?_ _)); exact BK262.out), GW262.out, GE262.out, (by repeat (first | (with_reducible first | exact HB.out | apply below_alloc | apply pw_below_drewN | apply below_drew1 | refine below_set ?_ GE262.out) | exact HB.out))⟩)
           ·skip
            rintro ⟨gb261, gb262⟩ w30 ⟨hS_, h0_, h1_, h2_, h3_, h4_, h5_, h6_, h7_, h8_, h9_⟩
            have n0_ : Aside0 (Kd.R k28 28 w30 w.heap.size (fun k_ => k_ ≠ gb261 ∧ k_ ≠ gb262) (.slice (some ad258) t252.length co26) t252) := ⟨h0_⟩
            have n1_ : Aside0 (w30.heap[gb261]? = some (.cells #[.int .i64 0, .int .i64 0, .int .i64 0, .int .i64 0, .bool false] 28 (0, 0))) := ⟨h1_⟩
            have n2_ : Aside0 (w30.heap[gb262]? = some (.cells #[.int .i64 0, .int .i64 0, .int .i64 0, .int .i64 0, .bool false] 28 (0, 0))) := ⟨h2_⟩
            have n3_ : Aside0 (w.heap.size ≤ gb261) := ⟨h3_⟩
            have n4_ : Aside0 (w.heap.size ≤ gb261) := ⟨h4_⟩
            have n5_ : Aside0 (gb262 ≠ gb261) := ⟨h5_⟩
            have n6_ : Aside0 (gb261 ≠ gb262) := ⟨h6_⟩
            have n7_ : Aside0 (w.heap.size ≤ gb262) := ⟨h7_⟩
            have n8_ : Aside0 (w.heap.size ≤ gb262) := ⟨h8_⟩
            have n9_ : Aside0 (Below w.heap.size w w30) := ⟨h9_⟩
            clear HO255
            clear HB
            clear h0_ h1_ h2_ h3_ h4_ h5_ h6_ h7_ h8_ h9_
            have HO255 := n0_
            have BK261 := n1_
            have BK262 := n2_
            have GW261 := n3_
            have GE261 := n4_
            have NB262_261 := n5_
            have NB261_262 := n6_
            have GW262 := n7_
            have GE262 := n8_
            have HB := n9_
            clear n0_ n1_ n2_ n3_ n4_ n5_ n6_ n7_ n8_ n9_
            have hHeld : w30.cell? (ad258.add ((t257).toNat * 5)) = some (.int .i64 ((rd_T28 t252 t257).f0)) ∧ w30.cell? ⟨(ad258.add ((t257).toNat * 5)).block, (ad258.add ((t257).toNat * 5)).off + 1, none⟩ = some (.int .i64 ((rd_T28 t252 t257).f1)) ∧ w30.cell? ⟨(ad258.add ((t257).toNat * 5)).block, (ad258.add ((t257).toNat * 5)).off + 2, none⟩ = some (.int .i64 ((rd_T28 t252 t257).f2)) ∧ w30.cell? ⟨(ad258.add ((t257).toNat * 5)).block, (ad258.add ((t257).toNat * 5)).off + 3, none⟩ = some (.int .i64 ((rd_T28 t252 t257).f3)) ∧ w30.cell? ⟨(ad258.add ((t257).toNat * 5)).block, (ad258.add ((t257).toNat * 5)).off + 4, none⟩ = some (.bool ((rd_T28 t252 t257).f4)) ∧ w30.cell? (ad258.add ((t259).toNat * 5)) = some (.int .i64 ((rd_T28 t252 t259).f0)) ∧ w30.cell? ⟨(ad258.add ((t259).toNat * 5)).block, (ad258.add ((t259).toNat * 5)).off + 1, none⟩ = some (.int .i64 ((rd_T28 t252 t259).f1)) ∧ w30.cell? ⟨(ad258.add ((t259).toNat * 5)).block, (ad258.add ((t259).toNat * 5)).off + 2, none⟩ = some (.int .i64 ((rd_T28 t252 t259).f2)) ∧ w30.cell? ⟨(ad258.add ((t259).toNat * 5)).block, (ad258.add ((t259).toNat * 5)).off + 3, none⟩ = some (.int .i64 ((rd_T28 t252 t259).f3)) ∧ w30.cell? ⟨(ad258.add ((t259).toNat * 5)).block, (ad258.add ((t259).toNat * 5)).off + 4, none⟩ = some (.bool ((rd_T28 t252 t259).f4)) := hS_
            refine norm_ (a' := ?_) ?_ ?_
            rotate_left
            ·simp only [putAll, Act.put, List.setIfInBounds_toArray, List.set_cons_zero, List.set_cons_succ]
             rfl
            refine one_ (i := 11) (N := some 35) #[true, true, true, true, true, true, true, true, true, true, true, true, false, false, true, true, false, false] rfl rfl (one_of HT_.out (by kernel_rfl)) (by decide) (fun K hK => ?_)
            refine goes_ Try.func11 (by kernel_rfl) rfl #[.int .i64 a2, .int .i64 (t252.length : Int)] (by rfl) rfl rfl (by (try simp only [List.map_toArray, List.map_cons, List.map_nil]); first | done | rfl | (simp only [List.length_drop, List.length_take]; rfl)) ?_
            with_reducible refine (chirographkeep_picked.calls a2 (t252.length : Int) t259 _ A14.out).mono ?_
            rintro e w' ⟨rfl, ⟨nd, rfl⟩⟩
            refine ⟨_, rfl, ?_⟩
            refine hK.out _ _ ⟨hHeld.1, hHeld.2.1, hHeld.2.2.1, hHeld.2.2.2.1, hHeld.2.2.2.2.1, hHeld.2.2.2.2.2.1, hHeld.2.2.2.2.2.2.1, hHeld.2.2.2.2.2.2.2.1, hHeld.2.2.2.2.2.2.2.2.1, hHeld.2.2.2.2.2.2.2.2.2⟩ (fun hHeld => ?_)
            clear hK K
            refine norm_ (a' := ?_) ?_ ?_
            rotate_left
            ·show Act.put _ (some 35) _ = _
             simp only [Act.put, List.setIfInBounds_toArray, List.set_cons_zero, List.set_cons_succ, i64_w, i32_w]
             rfl
            refine pure_ (i := 12) (N := some 36) (v := ?_) (a' := ?_) #[true, true, true, true, true, true, true, true, true, true, true, true, true, false, true, true, false, false] rfl rfl (any_of HT_.out (by kernel_rfl)) (fun _ _ _ h => h) (Or.inl ⟨by rfl, ?_⟩) ?_ ?_
            rotate_left
            ·intro w'
             go_simp
             with_reducible rfl
            rotate_left
            ·simp only [Act.put, List.setIfInBounds_toArray, List.set_cons_zero, List.set_cons_succ, i64_w, i32_w]
             rfl
            refine take_ (i := 13) (N := some 37) (v := ?_) (a' := ?_) #[true, true, true, true, true, true, true, true, true, true, true, true, true, true, true, true, false, false] rfl rfl (take_ofW HT_.out HW_.out (by kernel_rfl)) (fun _ _ _ h => h) (Or.inl ⟨by rfl, ?_⟩) hHeld ?_ ?_
            rotate_left
            ·rintro w' ⟨s0, s1, s2, s3, s4, s5, s6, s7, s8, s9⟩
             go_simp
             with_reducible rfl
            rotate_left
            ·simp only [Act.put, List.setIfInBounds_toArray, List.set_cons_zero, List.set_cons_succ, i64_w, i32_w]
             rfl
            exact norm_ (by first | (simp only [putAll, Act.put, List.setIfInBounds_toArray, List.set_cons_zero, List.set_cons_succ]; done) | (simp only [putAll, Act.put, List.setIfInBounds_toArray, List.set_cons_zero, List.set_cons_succ]; rfl)) (hJ4_11_14_15 (gb261, gb262) _ ⟨hHeld, (by (with_reducible repeat (first | apply Kd.R_alloc | apply Kd.R_drewN | apply Kd.R_drew)); exact HO255.out), (by (with_reducible repeat (first | refine blk_drewN ?_ _ | refine blk_drew ?_ | refine blk_alloc ?_ _)); exact BK261.out), (by (with_reducible repeat (first | refine blk_drewN ?_ _ | refine blk_drew ?_ | refine blk_alloc ?_ _)); exact BK262.out), GW261.out, GE261.out, NB262_261.out, NB261_262.out, GW262.out, GE262.out, (by repeat (first | (with_reducible first | exact HB.out | apply below_alloc | apply pw_below_drewN | apply below_drew1 | refine below_set ?_ GE261.out | refine below_set ?_ GE262.out) | exact HB.out))⟩)
          ·skip
           rintro gb262 w29 ⟨hS_, h0_, h1_, h2_, h3_, h4_⟩
           have n0_ : Aside0 (Kd.R k28 28 w29 w.heap.size (fun k_ => k_ ≠ gb262) (.slice (some ad258) t252.length co26) t252) := ⟨h0_⟩
           have n1_ : Aside0 (w29.heap[gb262]? = some (.cells #[.int .i64 0, .int .i64 0, .int .i64 0, .int .i64 0, .bool false] 28 (0, 0))) := ⟨h1_⟩
           have n2_ : Aside0 (w.heap.size ≤ gb262) := ⟨h2_⟩
           have n3_ : Aside0 (w.heap.size ≤ gb262) := ⟨h3_⟩
           have n4_ : Aside0 (Below w.heap.size w w29) := ⟨h4_⟩
           clear HO255
           clear HB
           clear h0_ h1_ h2_ h3_ h4_
           have HO255 := n0_
           have BK262 := n1_
           have GW262 := n2_
           have GE262 := n3_
           have HB := n4_
           clear n0_ n1_ n2_ n3_ n4_
           have hHeld : w29.cell? (ad258.add ((t257).toNat * 5)) = some (.int .i64 ((rd_T28 t252 t257).f0)) ∧ w29.cell? ⟨(ad258.add ((t257).toNat * 5)).block, (ad258.add ((t257).toNat * 5)).off + 1, none⟩ = some (.int .i64 ((rd_T28 t252 t257).f1)) ∧ w29.cell? ⟨(ad258.add ((t257).toNat * 5)).block, (ad258.add ((t257).toNat * 5)).off + 2, none⟩ = some (.int .i64 ((rd_T28 t252 t257).f2)) ∧ w29.cell? ⟨(ad258.add ((t257).toNat * 5)).block, (ad258.add ((t257).toNat * 5)).off + 3, none⟩ = some (.int .i64 ((rd_T28 t252 t257).f3)) ∧ w29.cell? ⟨(ad258.add ((t257).toNat * 5)).block, (ad258.add ((t257).toNat * 5)).off + 4, none⟩ = some (.bool ((rd_T28 t252 t257).f4)) ∧ w29.cell? (ad258.add ((t259).toNat * 5)) = some (.int .i64 ((rd_T28 t252 t259).f0)) ∧ w29.cell? ⟨(ad258.add ((t259).toNat * 5)).block, (ad258.add ((t259).toNat * 5)).off + 1, none⟩ = some (.int .i64 ((rd_T28 t252 t259).f1)) ∧ w29.cell? ⟨(ad258.add ((t259).toNat * 5)).block, (ad258.add ((t259).toNat * 5)).off + 2, none⟩ = some (.int .i64 ((rd_T28 t252 t259).f2)) ∧ w29.cell? ⟨(ad258.add ((t259).toNat * 5)).block, (ad258.add ((t259).toNat * 5)).off + 3, none⟩ = some (.int .i64 ((rd_T28 t252 t259).f3)) ∧ w29.cell? ⟨(ad258.add ((t259).toNat * 5)).block, (ad258.add ((t259).toNat * 5)).off + 4, none⟩ = some (.bool ((rd_T28 t252 t259).f4)) := hS_
           refine norm_ (a' := ?_) ?_ ?_
           rotate_left
           ·simp only [putAll, Act.put, List.setIfInBounds_toArray, List.set_cons_zero, List.set_cons_succ]
            rfl
           refine one_ (i := 14) (N := some 9) #[true, true, true, true, true, true, true, true, true, true, true, true, true, true, true, true, false, false] rfl rfl (one_of HT_.out (by kernel_rfl)) (by decide) (fun K hK => ?_)
           refine box_step ?hg (N := 9) ?hd (cs := #[.int .i64 0, .int .i64 0, .int .i64 0, .int .i64 0, .bool false]) (t := 28) ?hr ?_; (case hd => rfl); (case hg => rfl); (case hr => first | (go_simp; done) | (go_simp; rfl))
           intro gb261 hg w30 hbox hb
           have HS0_ := (hb.cell (World.block_lt_of_cell? _ _ (hHeld.1))).trans (hHeld.1)
           have HS1_ := (hb.cell (World.block_lt_of_cell? _ _ (hHeld.2.1))).trans (hHeld.2.1)
           have HS2_ := (hb.cell (World.block_lt_of_cell? _ _ (hHeld.2.2.1))).trans (hHeld.2.2.1)
           have HS3_ := (hb.cell (World.block_lt_of_cell? _ _ (hHeld.2.2.2.1))).trans (hHeld.2.2.2.1)
           have HS4_ := (hb.cell (World.block_lt_of_cell? _ _ (hHeld.2.2.2.2.1))).trans (hHeld.2.2.2.2.1)
           have HS5_ := (hb.cell (World.block_lt_of_cell? _ _ (hHeld.2.2.2.2.2.1))).trans (hHeld.2.2.2.2.2.1)
           have HS6_ := (hb.cell (World.block_lt_of_cell? _ _ (hHeld.2.2.2.2.2.2.1))).trans (hHeld.2.2.2.2.2.2.1)
           have HS7_ := (hb.cell (World.block_lt_of_cell? _ _ (hHeld.2.2.2.2.2.2.2.1))).trans (hHeld.2.2.2.2.2.2.2.1)
           have HS8_ := (hb.cell (World.block_lt_of_cell? _ _ (hHeld.2.2.2.2.2.2.2.2.1))).trans (hHeld.2.2.2.2.2.2.2.2.1)
           have HS9_ := (hb.cell (World.block_lt_of_cell? _ _ (hHeld.2.2.2.2.2.2.2.2.2))).trans (hHeld.2.2.2.2.2.2.2.2.2)
           have n0_ := Aside0.mk (Kd.R_below (Kd.R_elderB (by (with_reducible repeat (first | apply Kd.R_alloc | apply Kd.R_drewN | apply Kd.R_drew)); exact HO255.out) gb261 (Nat.le_of_eq hg.symm)) hb)
           have n1_ := Aside0.mk (blk_below (g := gb262) (o := .cells #[.int .i64 0, .int .i64 0, .int .i64 0, .int .i64 0, .bool false] 28 (0, 0)) (by (with_reducible repeat (first | refine blk_drewN ?_ _ | refine blk_drew ?_ | refine blk_alloc ?_ _)); exact BK262.out) hb)
           have n2_ := Aside0.mk (below_step (by repeat (first | (with_reducible first | exact HB.out | apply below_alloc | apply pw_below_drewN | apply below_drew1 | refine below_set ?_ GE262.out) | exact HB.out)) hb)
           have n3_ := Aside0.mk (hbox)
           have n4_ := Aside0.mk ((by rw [hg]; exact (below_size (by repeat (first | (with_reducible first | exact HB.out | apply below_alloc | apply pw_below_drewN | apply below_drew1 | refine below_set ?_ GE262.out) | exact HB.out))) : w.heap.size ≤ gb261))
           have n5_ := Aside0.mk ((by rw [hg]; exact (below_size (by repeat (first | (with_reducible first | exact HB.out | apply below_alloc | apply pw_below_drewN | apply below_drew1 | refine below_set ?_ GE262.out) | exact HB.out))) : w.heap.size ≤ gb261))
           have n6_ := Aside0.mk ((by rw [hg]; exact Nat.ne_of_lt (blk_lt (g := gb262) (o := .cells #[.int .i64 0, .int .i64 0, .int .i64 0, .int .i64 0, .bool false] 28 (0, 0)) (by (with_reducible repeat (first | refine blk_drewN ?_ _ | refine blk_drew ?_ | refine blk_alloc ?_ _)); exact BK262.out)) : gb262 ≠ gb261))
           have n7_ := Aside0.mk ((by rw [hg]; exact Nat.ne_of_gt (blk_lt (g := gb262) (o := .cells #[.int .i64 0, .int .i64 0, .int .i64 0, .int .i64 0, .bool false] 28 (0, 0)) (by (with_reducible repeat (first | refine blk_drewN ?_ _ | refine blk_drew ?_ | refine blk_alloc ?_ _)); exact BK262.out)) : gb261 ≠ gb262))
           clear HO255
           clear BK262
           clear HB
           have HO255 := n0_
           have BK262 := n1_
           have HB := n2_
           have BK261 := n3_
           have GW261 := n4_
           have GE261 := n5_
           have NB262_261 := n6_
           have NB261_262 := n7_
           clear n0_ n1_ n2_ n3_ n4_ n5_ n6_ n7_
           clear hb hbox hg
           refine hK.out _ _ ⟨HS0_, HS1_, HS2_, HS3_, HS4_, HS5_, HS6_, HS7_, HS8_, HS9_⟩ (fun hHeld => ?_)
           clear hK K
           refine norm_ (a' := ?_) ?_ ?_
           rotate_left
           ·show Act.put _ (some 9) _ = _
            simp only [Act.put, List.setIfInBounds_toArray, List.set_cons_zero, List.set_cons_succ, i64_w, i32_w]
            rfl
           exact norm_ (by first | (simp only [putAll, Act.put, List.setIfInBounds_toArray, List.set_cons_zero, List.set_cons_succ]; done) | (simp only [putAll, Act.put, List.setIfInBounds_toArray, List.set_cons_zero, List.set_cons_succ]; rfl)) (hJ4_11_14_15 (gb261, gb262) _ ⟨hHeld, (by (with_reducible repeat (first | apply Kd.R_alloc | apply Kd.R_drewN | apply Kd.R_drew)); exact Kd.R_mono HO255.out (fun _ hk => ⟨hk.2, hk.1⟩)), (by (with_reducible repeat (first | refine blk_drewN ?_ _ | refine blk_drew ?_ | refine blk_alloc ?_ _)); exact BK261.out), (by (with_reducible repeat (first | refine blk_drewN ?_ _ | refine blk_drew ?_ | refine blk_alloc ?_ _)); exact BK262.out), GW261.out, GE261.out, NB262_261.out, NB261_262.out, GW262.out, GE262.out, (by repeat (first | (with_reducible first | exact HB.out | apply below_alloc | apply pw_below_drewN | apply below_drew1 | refine below_set ?_ GE262.out | refine below_set ?_ GE261.out) | exact HB.out))⟩)
         ·skip
          rintro gb261 w29 ⟨hS_, h0_, h1_, h2_, h3_, h4_⟩
          have n0_ : Aside0 (Kd.R k28 28 w29 w.heap.size (fun k_ => k_ ≠ gb261) (.slice (some ad258) t252.length co26) t252) := ⟨h0_⟩
          have n1_ : Aside0 (w29.heap[gb261]? = some (.cells #[.int .i64 0, .int .i64 0, .int .i64 0, .int .i64 0, .bool false] 28 (0, 0))) := ⟨h1_⟩
          have n2_ : Aside0 (w.heap.size ≤ gb261) := ⟨h2_⟩
          have n3_ : Aside0 (w.heap.size ≤ gb261) := ⟨h3_⟩
          have n4_ : Aside0 (Below w.heap.size w w29) := ⟨h4_⟩
          clear HO255
          clear HB
          clear h0_ h1_ h2_ h3_ h4_
          have HO255 := n0_
          have BK261 := n1_
          have GW261 := n2_
          have GE261 := n3_
          have HB := n4_
          clear n0_ n1_ n2_ n3_ n4_
          have hHeld : w29.cell? (ad258.add ((t257).toNat * 5)) = some (.int .i64 ((rd_T28 t252 t257).f0)) ∧ w29.cell? ⟨(ad258.add ((t257).toNat * 5)).block, (ad258.add ((t257).toNat * 5)).off + 1, none⟩ = some (.int .i64 ((rd_T28 t252 t257).f1)) ∧ w29.cell? ⟨(ad258.add ((t257).toNat * 5)).block, (ad258.add ((t257).toNat * 5)).off + 2, none⟩ = some (.int .i64 ((rd_T28 t252 t257).f2)) ∧ w29.cell? ⟨(ad258.add ((t257).toNat * 5)).block, (ad258.add ((t257).toNat * 5)).off + 3, none⟩ = some (.int .i64 ((rd_T28 t252 t257).f3)) ∧ w29.cell? ⟨(ad258.add ((t257).toNat * 5)).block, (ad258.add ((t257).toNat * 5)).off + 4, none⟩ = some (.bool ((rd_T28 t252 t257).f4)) ∧ w29.cell? (ad258.add ((t259).toNat * 5)) = some (.int .i64 ((rd_T28 t252 t259).f0)) ∧ w29.cell? ⟨(ad258.add ((t259).toNat * 5)).block, (ad258.add ((t259).toNat * 5)).off + 1, none⟩ = some (.int .i64 ((rd_T28 t252 t259).f1)) ∧ w29.cell? ⟨(ad258.add ((t259).toNat * 5)).block, (ad258.add ((t259).toNat * 5)).off + 2, none⟩ = some (.int .i64 ((rd_T28 t252 t259).f2)) ∧ w29.cell? ⟨(ad258.add ((t259).toNat * 5)).block, (ad258.add ((t259).toNat * 5)).off + 3, none⟩ = some (.int .i64 ((rd_T28 t252 t259).f3)) ∧ w29.cell? ⟨(ad258.add ((t259).toNat * 5)).block, (ad258.add ((t259).toNat * 5)).off + 4, none⟩ = some (.bool ((rd_T28 t252 t259).f4)) := hS_
          refine norm_ (a' := ?_) ?_ ?_
          rotate_left
          ·simp only [putAll, Act.put, List.setIfInBounds_toArray, List.set_cons_zero, List.set_cons_succ]
           rfl
          refine one_ (i := 15) (N := some 10) #[true, true, true, true, true, true, true, true, true, true, true, true, true, true, true, true, false, false] rfl rfl (one_of HT_.out (by kernel_rfl)) (by decide) (fun K hK => ?_)
          refine box_step ?hg (N := 10) ?hd (cs := #[.int .i64 0, .int .i64 0, .int .i64 0, .int .i64 0, .bool false]) (t := 28) ?hr ?_; (case hd => rfl); (case hg => rfl); (case hr => first | (go_simp; done) | (go_simp; rfl))
          intro gb262 hg w30 hbox hb
          have HS0_ := (hb.cell (World.block_lt_of_cell? _ _ (hHeld.1))).trans (hHeld.1)
          have HS1_ := (hb.cell (World.block_lt_of_cell? _ _ (hHeld.2.1))).trans (hHeld.2.1)
          have HS2_ := (hb.cell (World.block_lt_of_cell? _ _ (hHeld.2.2.1))).trans (hHeld.2.2.1)
          have HS3_ := (hb.cell (World.block_lt_of_cell? _ _ (hHeld.2.2.2.1))).trans (hHeld.2.2.2.1)
          have HS4_ := (hb.cell (World.block_lt_of_cell? _ _ (hHeld.2.2.2.2.1))).trans (hHeld.2.2.2.2.1)
          have HS5_ := (hb.cell (World.block_lt_of_cell? _ _ (hHeld.2.2.2.2.2.1))).trans (hHeld.2.2.2.2.2.1)
          have HS6_ := (hb.cell (World.block_lt_of_cell? _ _ (hHeld.2.2.2.2.2.2.1))).trans (hHeld.2.2.2.2.2.2.1)
          have HS7_ := (hb.cell (World.block_lt_of_cell? _ _ (hHeld.2.2.2.2.2.2.2.1))).trans (hHeld.2.2.2.2.2.2.2.1)
          have HS8_ := (hb.cell (World.block_lt_of_cell? _ _ (hHeld.2.2.2.2.2.2.2.2.1))).trans (hHeld.2.2.2.2.2.2.2.2.1)
          have HS9_ := (hb.cell (World.block_lt_of_cell? _ _ (hHeld.2.2.2.2.2.2.2.2.2))).trans (hHeld.2.2.2.2.2.2.2.2.2)
          have n0_ := Aside0.mk (Kd.R_below (Kd.R_elderB (by (with_reducible repeat (first | apply Kd.R_alloc | apply Kd.R_drewN | apply Kd.R_drew)); exact HO255.out) gb262 (Nat.le_of_eq hg.symm)) hb)
          have n1_ := Aside0.mk (blk_below (g := gb261) (o := .cells #[.int .i64 0, .int .i64 0, .int .i64 0, .int .i64 0, .bool false] 28 (0, 0)) (by (with_reducible repeat (first | refine blk_drewN ?_ _ | refine blk_drew ?_ | refine blk_alloc ?_ _)); exact BK261.out) hb)
          have n2_ := Aside0.mk (below_step (by repeat (first | (with_reducible first | exact HB.out | apply below_alloc | apply pw_below_drewN | apply below_drew1 | refine below_set ?_ GE261.out) | exact HB.out)) hb)
          have n3_ := Aside0.mk (hbox)
          have n4_ := Aside0.mk ((by rw [hg]; exact (below_size (by repeat (first | (with_reducible first | exact HB.out | apply below_alloc | apply pw_below_drewN | apply below_drew1 | refine below_set ?_ GE261.out) | exact HB.out))) : w.heap.size ≤ gb262))
          have n5_ := Aside0.mk ((by rw [hg]; exact (below_size (by repeat (first | (with_reducible first | exact HB.out | apply below_alloc | apply pw_below_drewN | apply below_drew1 | refine below_set ?_ GE261.out) | exact HB.out))) : w.heap.size ≤ gb262))
          have n6_ := Aside0.mk ((by rw [hg]; exact Nat.ne_of_lt (blk_lt (g := gb261) (o := .cells #[.int .i64 0, .int .i64 0, .int .i64 0, .int .i64 0, .bool false] 28 (0, 0)) (by (with_reducible repeat (first | refine blk_drewN ?_ _ | refine blk_drew ?_ | refine blk_alloc ?_ _)); exact BK261.out)) : gb261 ≠ gb262))
          have n7_ := Aside0.mk ((by rw [hg]; exact Nat.ne_of_gt (blk_lt (g := gb261) (o := .cells #[.int .i64 0, .int .i64 0, .int .i64 0, .int .i64 0, .bool false] 28 (0, 0)) (by (with_reducible repeat (first | refine blk_drewN ?_ _ | refine blk_drew ?_ | refine blk_alloc ?_ _)); exact BK261.out)) : gb262 ≠ gb261))
          clear HO255
          clear BK261
          clear HB
          have HO255 := n0_
          have BK261 := n1_
          have HB := n2_
          have BK262 := n3_
          have GW262 := n4_
          have GE262 := n5_
          have NB261_262 := n6_
          have NB262_261 := n7_
          clear n0_ n1_ n2_ n3_ n4_ n5_ n6_ n7_
          clear hb hbox hg
          refine hK.out _ _ ⟨HS0_, HS1_, HS2_, HS3_, HS4_, HS5_, HS6_, HS7_, HS8_, HS9_⟩ (fun hHeld => ?_)
          clear hK K
          refine norm_ (a' := ?_) ?_ ?_
          rotate_left
          ·show Act.put _ (some 10) _ = _
           simp only [Act.put, List.setIfInBounds_toArray, List.set_cons_zero, List.set_cons_succ, i64_w, i32_w]
           rfl
          exact norm_ (by first | (simp only [putAll, Act.put, List.setIfInBounds_toArray, List.set_cons_zero, List.set_cons_succ]; done) | (simp only [putAll, Act.put, List.setIfInBounds_toArray, List.set_cons_zero, List.set_cons_succ]; rfl)) (hJ4_11_14_15 (gb261, gb262) _ ⟨hHeld, (by (with_reducible repeat (first | apply Kd.R_alloc | apply Kd.R_drewN | apply Kd.R_drew)); exact HO255.out), (by (with_reducible repeat (first | refine blk_drewN ?_ _ | refine blk_drew ?_ | refine blk_alloc ?_ _)); exact BK261.out), (by (with_reducible repeat (first | refine blk_drewN ?_ _ | refine blk_drew ?_ | refine blk_alloc ?_ _)); exact BK262.out), GW261.out, GE261.out, NB262_261.out, NB261_262.out, GW262.out, GE262.out, (by repeat (first | (with_reducible first | exact HB.out | apply below_alloc | apply pw_below_drewN | apply below_drew1 | refine below_set ?_ GE261.out | refine below_set ?_ GE262.out) | exact HB.out))⟩)
        rintro ⟨gb261, gb262⟩ w30 ⟨hS_, h0_, h1_, h2_, h3_, h4_, h5_, h6_, h7_, h8_, h9_⟩
        have n0_ : Aside0 (Kd.R k28 28 w30 w.heap.size (fun k_ => k_ ≠ gb261 ∧ k_ ≠ gb262) (.slice (some ad258) t252.length co26) t252) := ⟨h0_⟩
        have n1_ : Aside0 (w30.heap[gb261]? = some (.cells #[.int .i64 0, .int .i64 0, .int .i64 0, .int .i64 0, .bool false] 28 (0, 0))) := ⟨h1_⟩
        have n2_ : Aside0 (w30.heap[gb262]? = some (.cells #[.int .i64 0, .int .i64 0, .int .i64 0, .int .i64 0, .bool false] 28 (0, 0))) := ⟨h2_⟩
        have n3_ : Aside0 (w.heap.size ≤ gb261) := ⟨h3_⟩
        have n4_ : Aside0 (w.heap.size ≤ gb261) := ⟨h4_⟩
        have n5_ : Aside0 (gb262 ≠ gb261) := ⟨h5_⟩
        have n6_ : Aside0 (gb261 ≠ gb262) := ⟨h6_⟩
        have n7_ : Aside0 (w.heap.size ≤ gb262) := ⟨h7_⟩
        have n8_ : Aside0 (w.heap.size ≤ gb262) := ⟨h8_⟩
        have n9_ : Aside0 (Below w.heap.size w w30) := ⟨h9_⟩
        clear HO255
        clear HB
        clear h0_ h1_ h2_ h3_ h4_ h5_ h6_ h7_ h8_ h9_
        have HO255 := n0_
        have BK261 := n1_
        have BK262 := n2_
        have GW261 := n3_
        have GE261 := n4_
        have NB262_261 := n5_
        have NB261_262 := n6_
        have GW262 := n7_
        have GE262 := n8_
        have HB := n9_
        clear n0_ n1_ n2_ n3_ n4_ n5_ n6_ n7_ n8_ n9_
        have hHeld : w30.cell? (ad258.add ((t257).toNat * 5)) = some (.int .i64 ((rd_T28 t252 t257).f0)) ∧ w30.cell? ⟨(ad258.add ((t257).toNat * 5)).block, (ad258.add ((t257).toNat * 5)).off + 1, none⟩ = some (.int .i64 ((rd_T28 t252 t257).f1)) ∧ w30.cell? ⟨(ad258.add ((t257).toNat * 5)).block, (ad258.add ((t257).toNat * 5)).off + 2, none⟩ = some (.int .i64 ((rd_T28 t252 t257).f2)) ∧ w30.cell? ⟨(ad258.add ((t257).toNat * 5)).block, (ad258.add ((t257).toNat * 5)).off + 3, none⟩ = some (.int .i64 ((rd_T28 t252 t257).f3)) ∧ w30.cell? ⟨(ad258.add ((t257).toNat * 5)).block, (ad258.add ((t257).toNat * 5)).off + 4, none⟩ = some (.bool ((rd_T28 t252 t257).f4)) ∧ w30.cell? (ad258.add ((t259).toNat * 5)) = some (.int .i64 ((rd_T28 t252 t259).f0)) ∧ w30.cell? ⟨(ad258.add ((t259).toNat * 5)).block, (ad258.add ((t259).toNat * 5)).off + 1, none⟩ = some (.int .i64 ((rd_T28 t252 t259).f1)) ∧ w30.cell? ⟨(ad258.add ((t259).toNat * 5)).block, (ad258.add ((t259).toNat * 5)).off + 2, none⟩ = some (.int .i64 ((rd_T28 t252 t259).f2)) ∧ w30.cell? ⟨(ad258.add ((t259).toNat * 5)).block, (ad258.add ((t259).toNat * 5)).off + 3, none⟩ = some (.int .i64 ((rd_T28 t252 t259).f3)) ∧ w30.cell? ⟨(ad258.add ((t259).toNat * 5)).block, (ad258.add ((t259).toNat * 5)).off + 4, none⟩ = some (.bool ((rd_T28 t252 t259).f4)) := hS_
        refine norm_ (a' := ?_) ?_ ?_
        rotate_left
        ·simp only [putAll, Act.put, List.setIfInBounds_toArray, List.set_cons_zero, List.set_cons_succ]
         rfl
        refine one_ (i := 16) (N := none) #[true, true, true, true, true, true, true, true, true, true, true, true, true, true, true, true, true, false] rfl rfl (one_of HT_.out (by kernel_rfl)) (by decide) (fun K hK => ?_)
        have hs31 : w30.cell? ⟨gb261, 0, none⟩ = some (.int .i64 0) := (blk_cell BK261.out 0).trans rfl
        have hfs31 := blk_frozen BK261.out 0
        have hns31_1 := NB262_261.out
        have hms31_1 := NB261_262.out
        have hs32 : w30.cell? ⟨gb261, 1, none⟩ = some (.int .i64 0) := (blk_cell BK261.out 1).trans rfl
        have hfs32 := blk_frozen BK261.out 1
        have hns32_1 := NB262_261.out
        have hms32_1 := NB261_262.out
        have hs33 : w30.cell? ⟨gb261, 2, none⟩ = some (.int .i64 0) := (blk_cell BK261.out 2).trans rfl
        have hfs33 := blk_frozen BK261.out 2
        have hns33_1 := NB262_261.out
        have hms33_1 := NB261_262.out
        have hs34 : w30.cell? ⟨gb261, 3, none⟩ = some (.int .i64 0) := (blk_cell BK261.out 3).trans rfl
        have hfs34 := blk_frozen BK261.out 3
        have hns34_1 := NB262_261.out
        have hms34_1 := NB261_262.out
        have hs35 : w30.cell? ⟨gb261, 4, none⟩ = some (.bool false) := (blk_cell BK261.out 4).trans rfl
        have hfs35 := blk_frozen BK261.out 4
        have hns35_1 := NB262_261.out
        have hms35_1 := NB261_262.out
        refine skip_ (w1 := ?_) (by rfl) rfl ?_ ?_
        rotate_left
        ·go_simp
         rfl
        refine hK.out _ _ ⟨((cell_far (p := ⟨gb261, _, none⟩) (by first | exact Kd.own_blk (Kd.R_away HO255.out (fun _ hk => hk.1)) | (rw [add_block]; exact Kd.own_blk (Kd.R_away HO255.out (fun _ hk => hk.1))) | (show (Addr.add _ _).block ≠ _; rw [add_block]; exact Kd.own_blk (Kd.R_away HO255.out (fun _ hk => hk.1))) | (dsimp only; exact Kd.own_blk (Kd.R_away HO255.out (fun _ hk => hk.1)))) _).trans (((cell_far (p := ⟨gb261, _, none⟩) (by first | exact Kd.own_blk (Kd.R_away HO255.out (fun _ hk => hk.1)) | (rw [add_block]; exact Kd.own_blk (Kd.R_away HO255.out (fun _ hk => hk.1))) | (show (Addr.add _ _).block ≠ _; rw [add_block]; exact Kd.own_blk (Kd.R_away HO255.out (fun _ hk => hk.1))) | (dsimp only; exact Kd.own_blk (Kd.R_away HO255.out (fun _ hk => hk.1)))) _).trans (((cell_far (p := ⟨gb261, _, none⟩) (by first | exact Kd.own_blk (Kd.R_away HO255.out (fun _ hk => hk.1)) | (rw [add_block]; exact Kd.own_blk (Kd.R_away HO255.out (fun _ hk => hk.1))) | (show (Addr.add _ _).block ≠ _; rw [add_block]; exact Kd.own_blk (Kd.R_away HO255.out (fun _ hk => hk.1))) | (dsimp only; exact Kd.own_blk (Kd.R_away HO255.out (fun _ hk => hk.1)))) _).trans (((cell_far (p := ⟨gb261, _, none⟩) (by first | exact Kd.own_blk (Kd.R_away HO255.out (fun _ hk => hk.1)) | (rw [add_block]; exact Kd.own_blk (Kd.R_away HO255.out (fun _ hk => hk.1))) | (show (Addr.add _ _).block ≠ _; rw [add_block]; exact Kd.own_blk (Kd.R_away HO255.out (fun _ hk => hk.1))) | (dsimp only; exact Kd.own_blk (Kd.R_away HO255.out (fun _ hk => hk.1)))) _).trans (((cell_far (p := ⟨gb261, _, none⟩) (by first | exact Kd.own_blk (Kd.R_away HO255.out (fun _ hk => hk.1)) | (rw [add_block]; exact Kd.own_blk (Kd.R_away HO255.out (fun _ hk => hk.1))) | (show (Addr.add _ _).block ≠ _; rw [add_block]; exact Kd.own_blk (Kd.R_away HO255.out (fun _ hk => hk.1))) | (dsimp only; exact Kd.own_blk (Kd.R_away HO255.out (fun _ hk => hk.1)))) _).trans (hHeld.1)))))))))), ((cell_far (p := ⟨gb261, _, none⟩) (by first | exact Kd.own_blk (Kd.R_away HO255.out (fun _ hk => hk.1)) | (rw [add_block]; exact Kd.own_blk (Kd.R_away HO255.out (fun _ hk => hk.1))) | (show (Addr.add _ _).block ≠ _; rw [add_block]; exact Kd.own_blk (Kd.R_away HO255.out (fun _ hk => hk.1))) | (dsimp only; exact Kd.own_blk (Kd.R_away HO255.out (fun _ hk => hk.1)))) _).trans (((cell_far (p := ⟨gb261, _, none⟩) (by first | exact Kd.own_blk (Kd.R_away HO255.out (fun _ hk => hk.1)) | (rw [add_block]; exact Kd.own_blk (Kd.R_away HO255.out (fun _ hk => hk.1))) | (show (Addr.add _ _).block ≠ _; rw [add_block]; exact Kd.own_blk (Kd.R_away HO255.out (fun _ hk => hk.1))) | (dsimp only; exact Kd.own_blk (Kd.R_away HO255.out (fun _ hk => hk.1)))) _).trans (((cell_far (p := ⟨gb261, _, none⟩) (by first | exact Kd.own_blk (Kd.R_away HO255.out (fun _ hk => hk.1)) | (rw [add_block]; exact Kd.own_blk (Kd.R_away HO255.out (fun _ hk => hk.1))) | (show (Addr.add _ _).block ≠ _; rw [add_block]; exact Kd.own_blk (Kd.R_away HO255.out (fun _ hk => hk.1))) | (dsimp only; exact Kd.own_blk (Kd.R_away HO255.out (fun _ hk => hk.1)))) _).trans (((cell_far (p := ⟨gb261, _, none⟩) (by first | exact Kd.own_blk (Kd.R_away HO255.out (fun _ hk => hk.1)) | (rw [add_block]; exact Kd.own_blk (Kd.R_away HO255.out (fun _ hk => hk.1))) | (show (Addr.add _ _).block ≠ _; rw [add_block]; exact Kd.own_blk (Kd.R_away HO255.out (fun _ hk => hk.1))) | (dsimp only; exact Kd.own_blk (Kd.R_away HO255.out (fun _ hk => hk.1)))) _).trans (((cell_far (p := ⟨gb261, _, none⟩) (by first | exact Kd.own_blk (Kd.R_away HO255.out (fun _ hk => hk.1)) | (rw [add_block]; exact Kd.own_blk (Kd.R_away HO255.out (fun _ hk => hk.1))) | (show (Addr.add _ _).block ≠ _; rw [add_block]; exact Kd.own_blk (Kd.R_away HO255.out (fun _ hk => hk.1))) | (dsimp only; exact Kd.own_blk (Kd.R_away HO255.out (fun _ hk => hk.1)))) _).trans (hHeld.2.1)))))))))), ((cell_far (p := ⟨gb261, _, none⟩) (by first | exact Kd.own_blk (Kd.R_away HO255.out (fun _ hk => hk.1)) | (rw [add_block]; exact Kd.own_blk (Kd.R_away HO255.out (fun _ hk => hk.1))) | (show (Addr.add _ _).block ≠ _; rw [add_block]; exact Kd.own_blk (Kd.R_away HO255.out (fun _ hk => hk.1))) | (dsimp only; exact Kd.own_blk (Kd.R_away HO255.out (fun _ hk => hk.1)))) _).trans (((cell_far (p := ⟨gb261, _, none⟩) (by first | exact Kd.own_blk (Kd.R_away HO255.out (fun _ hk => hk.1)) | (rw [add_block]; exact Kd.own_blk (Kd.R_away HO255.out (fun _ hk => hk.1))) | (show (Addr.add _ _).block ≠ _; rw [add_block]; exact Kd.own_blk (Kd.R_away HO255.out (fun _ hk => hk.1))) | (dsimp only; exact Kd.own_blk (Kd.R_away HO255.out (fun _ hk => hk.1)))) _).trans (((cell_far (p := ⟨gb261, _, none⟩) (by first | exact Kd.own_blk (Kd.R_away HO255.out (fun _ hk => hk.1)) | (rw [add_block]; exact Kd.own_blk (Kd.R_away HO255.out (fun _ hk => hk.1))) | (show (Addr.add _ _).block ≠ _; rw [add_block]; exact Kd.own_blk (Kd.R_away HO255.out (fun _ hk => hk.1))) | (dsimp only; exact Kd.own_blk (Kd.R_away HO255.out (fun _ hk => hk.1)))) _).trans (((cell_far (p := ⟨gb261, _, none⟩) (by first | exact Kd.own_blk (Kd.R_away HO255.out (fun _ hk => hk.1)) | (rw [add_block]; exact Kd.own_blk (Kd.R_away HO255.out (fun _ hk => hk.1))) | (show (Addr.add _ _).block ≠ _; rw [add_block]; exact Kd.own_blk (Kd.R_away HO255.out (fun _ hk => hk.1))) | (dsimp only; exact Kd.own_blk (Kd.R_away HO255.out (fun _ hk => hk.1)))) _).trans (((cell_far (p := ⟨gb261, _, none⟩) (by first | exact Kd.own_blk (Kd.R_away HO255.out (fun _ hk => hk.1)) | (rw [add_block]; exact Kd.own_blk (Kd.R_away HO255.out (fun _ hk => hk.1))) | (show (Addr.add _ _).block ≠ _; rw [add_block]; exact Kd.own_blk (Kd.R_away HO255.out (fun _ hk => hk.1))) | (dsimp only; exact Kd.own_blk (Kd.R_away HO255.out (fun _ hk => hk.1)))) _).trans (hHeld.2.2.1)))))))))), ((cell_far (p := ⟨gb261, _, none⟩) (by first | exact Kd.own_blk (Kd.R_away HO255.out (fun _ hk => hk.1)) | (rw [add_block]; exact Kd.own_blk (Kd.R_away HO255.out (fun _ hk => hk.1))) | (show (Addr.add _ _).block ≠ _; rw [add_block]; exact Kd.own_blk (Kd.R_away HO255.out (fun _ hk => hk.1))) | (dsimp only; exact Kd.own_blk (Kd.R_away HO255.out (fun _ hk => hk.1)))) _).trans (((cell_far (p := ⟨gb261, _, none⟩) (by first | exact Kd.own_blk (Kd.R_away HO255.out (fun _ hk => hk.1)) | (rw [add_block]; exact Kd.own_blk (Kd.R_away HO255.out (fun _ hk => hk.1))) | (show (Addr.add _ _).block ≠ _; rw [add_block]; exact Kd.own_blk (Kd.R_away HO255.out (fun _ hk => hk.1))) | (dsimp only; exact Kd.own_blk (Kd.R_away HO255.out (fun _ hk => hk.1)))) _).trans (((cell_far (p := ⟨gb261, _, none⟩) (by first | exact Kd.own_blk (Kd.R_away HO255.out (fun _ hk => hk.1)) | (rw [add_block]; exact Kd.own_blk (Kd.R_away HO255.out (fun _ hk => hk.1))) | (show (Addr.add _ _).block ≠ _; rw [add_block]; exact Kd.own_blk (Kd.R_away HO255.out (fun _ hk => hk.1))) | (dsimp only; exact Kd.own_blk (Kd.R_away HO255.out (fun _ hk => hk.1)))) _).trans (((cell_far (p := ⟨gb261, _, none⟩) (by first | exact Kd.own_blk (Kd.R_away HO255.out (fun _ hk => hk.1)) | (rw [add_block]; exact Kd.own_blk (Kd.R_away HO255.out (fun _ hk => hk.1))) | (show (Addr.add _ _).block ≠ _; rw [add_block]; exact Kd.own_blk (Kd.R_away HO255.out (fun _ hk => hk.1))) | (dsimp only; exact Kd.own_blk (Kd.R_away HO255.out (fun _ hk => hk.1)))) _).trans (((cell_far (p := ⟨gb261, _, none⟩) (by first | exact Kd.own_blk (Kd.R_away HO255.out (fun _ hk => hk.1)) | (rw [add_block]; exact Kd.own_blk (Kd.R_away HO255.out (fun _ hk => hk.1))) | (show (Addr.add _ _).block ≠ _; rw [add_block]; exact Kd.own_blk (Kd.R_away HO255.out (fun _ hk => hk.1))) | (dsimp only; exact Kd.own_blk (Kd.R_away HO255.out (fun _ hk => hk.1)))) _).trans (hHeld.2.2.2.1)))))))))), ((cell_far (p := ⟨gb261, _, none⟩) (by first | exact Kd.own_blk (Kd.R_away HO255.out (fun _ hk => hk.1)) | (rw [add_block]; exact Kd.own_blk (Kd.R_away HO255.out (fun _ hk => hk.1))) | (show (Addr.add _ _).block ≠ _; rw [add_block]; exact Kd.own_blk (Kd.R_away HO255.out (fun _ hk => hk.1))) | (dsimp only; exact Kd.own_blk (Kd.R_away HO255.out (fun _ hk => hk.1)))) _).trans (((cell_far (p := ⟨gb261, _, none⟩) (by first | exact Kd.own_blk (Kd.R_away HO255.out (fun _ hk => hk.1)) | (rw [add_block]; exact Kd.own_blk (Kd.R_away HO255.out (fun _ hk => hk.1))) | (show (Addr.add _ _).block ≠ _; rw [add_block]; exact Kd.own_blk (Kd.R_away HO255.out (fun _ hk => hk.1))) | (dsimp only; exact Kd.own_blk (Kd.R_away HO255.out (fun _ hk => hk.1)))) _).trans (((cell_far (p := ⟨gb261, _, none⟩) (by first | exact Kd.own_blk (Kd.R_away HO255.out (fun _ hk => hk.1)) | (rw [add_block]; exact Kd.own_blk (Kd.R_away HO255.out (fun _ hk => hk.1))) | (show (Addr.add _ _).block ≠ _; rw [add_block]; exact Kd.own_blk (Kd.R_away HO255.out (fun _ hk => hk.1))) | (dsimp only; exact Kd.own_blk (Kd.R_away HO255.out (fun _ hk => hk.1)))) _).trans (((cell_far (p := ⟨gb261, _, none⟩) (by first | exact Kd.own_blk (Kd.R_away HO255.out (fun _ hk => hk.1)) | (rw [add_block]; exact Kd.own_blk (Kd.R_away HO255.out (fun _ hk => hk.1))) | (show (Addr.add _ _).block ≠ _; rw [add_block]; exact Kd.own_blk (Kd.R_away HO255.out (fun _ hk => hk.1))) | (dsimp only; exact Kd.own_blk (Kd.R_away HO255.out (fun _ hk => hk.1)))) _).trans (((cell_far (p := ⟨gb261, _, none⟩) (by first | exact Kd.own_blk (Kd.R_away HO255.out (fun _ hk => hk.1)) | (rw [add_block]; exact Kd.own_blk (Kd.R_away HO255.out (fun _ hk => hk.1))) | (show (Addr.add _ _).block ≠ _; rw [add_block]; exact Kd.own_blk (Kd.R_away HO255.out (fun _ hk => hk.1))) | (dsimp only; exact Kd.own_blk (Kd.R_away HO255.out (fun _ hk => hk.1)))) _).trans (hHeld.2.2.2.2.1)))))))))), ((cell_far (p := ⟨gb261, _, none⟩) (by first | exact Kd.own_blk (Kd.R_away HO255.out (fun _ hk => hk.1)) | (rw [add_block]; exact Kd.own_blk (Kd.R_away HO255.out (fun _ hk => hk.1))) | (show (Addr.add _ _).block ≠ _; rw [add_block]; exact Kd.own_blk (Kd.R_away HO255.out (fun _ hk => hk.1))) | (dsimp only; exact Kd.own_blk (Kd.R_away HO255.out (fun _ hk => hk.1)))) _).trans (((cell_far (p := ⟨gb261, _, none⟩) (by first | exact Kd.own_blk (Kd.R_away HO255.out (fun _ hk => hk.1)) | (rw [add_block]; exact Kd.own_blk (Kd.R_away HO255.out (fun _ hk => hk.1))) | (show (Addr.add _ _).block ≠ _; rw [add_block]; exact Kd.own_blk (Kd.R_away HO255.out (fun _ hk => hk.1))) | (dsimp only; exact Kd.own_blk (Kd.R_away HO255.out (fun _ hk => hk.1)))) _).trans (((cell_far (p := ⟨gb261, _, none⟩) (by first | exact Kd.own_blk (Kd.R_away HO255.out (fun _ hk => hk.1)) | (rw [add_block]; exact Kd.own_blk (Kd.R_away HO255.out (fun _ hk => hk.1))) | (show (Addr.add _ _).block ≠ _; rw [add_block]; exact Kd.own_blk (Kd.R_away HO255.out (fun _ hk => hk.1))) | (dsimp only; exact Kd.own_blk (Kd.R_away HO255.out (fun _ hk => hk.1)))) _).trans (((cell_far (p := ⟨gb261, _, none⟩) (by first | exact Kd.own_blk (Kd.R_away HO255.out (fun _ hk => hk.1)) | (rw [add_block]; exact Kd.own_blk (Kd.R_away HO255.out (fun _ hk => hk.1))) | (show (Addr.add _ _).block ≠ _; rw [add_block]; exact Kd.own_blk (Kd.R_away HO255.out (fun _ hk => hk.1))) | (dsimp only; exact Kd.own_blk (Kd.R_away HO255.out (fun _ hk => hk.1)))) _).trans (((cell_far (p := ⟨gb261, _, none⟩) (by first | exact Kd.own_blk (Kd.R_away HO255.out (fun _ hk => hk.1)) | (rw [add_block]; exact Kd.own_blk (Kd.R_away HO255.out (fun _ hk => hk.1))) | (show (Addr.add _ _).block ≠ _; rw [add_block]; exact Kd.own_blk (Kd.R_away HO255.out (fun _ hk => hk.1))) | (dsimp only; exact Kd.own_blk (Kd.R_away HO255.out (fun _ hk => hk.1)))) _).trans (hHeld.2.2.2.2.2.1)))))))))), ((cell_far (p := ⟨gb261, _, none⟩) (by first | exact Kd.own_blk (Kd.R_away HO255.out (fun _ hk => hk.1)) | (rw [add_block]; exact Kd.own_blk (Kd.R_away HO255.out (fun _ hk => hk.1))) | (show (Addr.add _ _).block ≠ _; rw [add_block]; exact Kd.own_blk (Kd.R_away HO255.out (fun _ hk => hk.1))) | (dsimp only; exact Kd.own_blk (Kd.R_away HO255.out (fun _ hk => hk.1)))) _).trans (((cell_far (p := ⟨gb261, _, none⟩) (by first | exact Kd.own_blk (Kd.R_away HO255.out (fun _ hk => hk.1)) | (rw [add_block]; exact Kd.own_blk (Kd.R_away HO255.out (fun _ hk => hk.1))) | (show (Addr.add _ _).block ≠ _; rw [add_block]; exact Kd.own_blk (Kd.R_away HO255.out (fun _ hk => hk.1))) | (dsimp only; exact Kd.own_blk (Kd.R_away HO255.out (fun _ hk => hk.1)))) _).trans (((cell_far (p := ⟨gb261, _, none⟩) (by first | exact Kd.own_blk (Kd.R_away HO255.out (fun _ hk => hk.1)) | (rw [add_block]; exact Kd.own_blk (Kd.R_away HO255.out (fun _ hk => hk.1))) | (show (Addr.add _ _).block ≠ _; rw [add_block]; exact Kd.own_blk (Kd.R_away HO255.out (fun _ hk => hk.1))) | (dsimp only; exact Kd.own_blk (Kd.R_away HO255.out (fun _ hk => hk.1)))) _).trans (((cell_far (p := ⟨gb261, _, none⟩) (by first | exact Kd.own_blk (Kd.R_away HO255.out (fun _ hk => hk.1)) | (rw [add_block]; exact Kd.own_blk (Kd.R_away HO255.out (fun _ hk => hk.1))) | (show (Addr.add _ _).block ≠ _; rw [add_block]; exact Kd.own_blk (Kd.R_away HO255.out (fun _ hk => hk.1))) | (dsimp only; exact Kd.own_blk (Kd.R_away HO255.out (fun _ hk => hk.1)))) _).trans (((cell_far (p := ⟨gb261, _, none⟩) (by first | exact Kd.own_blk (Kd.R_away HO255.out (fun _ hk => hk.1)) | (rw [add_block]; exact Kd.own_blk (Kd.R_away HO255.out (fun _ hk => hk.1))) | (show (Addr.add _ _).block ≠ _; rw [add_block]; exact Kd.own_blk (Kd.R_away HO255.out (fun _ hk => hk.1))) | (dsimp only; exact Kd.own_blk (Kd.R_away HO255.out (fun _ hk => hk.1)))) _).trans (hHeld.2.2.2.2.2.2.1)))))))))), ((cell_far (p := ⟨gb261, _, none⟩) (by first | exact Kd.own_blk (Kd.R_away HO255.out (fun _ hk => hk.1)) | (rw [add_block]; exact Kd.own_blk (Kd.R_away HO255.out (fun _ hk => hk.1))) | (show (Addr.add _ _).block ≠ _; rw [add_block]; exact Kd.own_blk (Kd.R_away HO255.out (fun _ hk => hk.1))) | (dsimp only; exact Kd.own_blk (Kd.R_away HO255.out (fun _ hk => hk.1)))) _).trans (((cell_far (p := ⟨gb261, _, none⟩) (by first | exact Kd.own_blk (Kd.R_away HO255.out (fun _ hk => hk.1)) | (rw [add_block]; exact Kd.own_blk (Kd.R_away HO255.out (fun _ hk => hk.1))) | (show (Addr.add _ _).block ≠ _; rw [add_block]; exact Kd.own_blk (Kd.R_away HO255.out (fun _ hk => hk.1))) | (dsimp only; exact Kd.own_blk (Kd.R_away HO255.out (fun _ hk => hk.1)))) _).trans (((cell_far (p := ⟨gb261, _, none⟩) (by first | exact Kd.own_blk (Kd.R_away HO255.out (fun _ hk => hk.1)) | (rw [add_block]; exact Kd.own_blk (Kd.R_away HO255.out (fun _ hk => hk.1))) | (show (Addr.add _ _).block ≠ _; rw [add_block]; exact Kd.own_blk (Kd.R_away HO255.out (fun _ hk => hk.1))) | (dsimp only; exact Kd.own_blk (Kd.R_away HO255.out (fun _ hk => hk.1)))) _).trans (((cell_far (p := ⟨gb261, _, none⟩) (by first | exact Kd.own_blk (Kd.R_away HO255.out (fun _ hk => hk.1)) | (rw [add_block]; exact Kd.own_blk (Kd.R_away HO255.out (fun _ hk => hk.1))) | (show (Addr.add _ _).block ≠ _; rw [add_block]; exact Kd.own_blk (Kd.R_away HO255.out (fun _ hk => hk.1))) | (dsimp only; exact Kd.own_blk (Kd.R_away HO255.out (fun _ hk => hk.1)))) _).trans (((cell_far (p := ⟨gb261, _, none⟩) (by first | exact Kd.own_blk (Kd.R_away HO255.out (fun _ hk => hk.1)) | (rw [add_block]; exact Kd.own_blk (Kd.R_away HO255.out (fun _ hk => hk.1))) | (show (Addr.add _ _).block ≠ _; rw [add_block]; exact Kd.own_blk (Kd.R_away HO255.out (fun _ hk => hk.1))) | (dsimp only; exact Kd.own_blk (Kd.R_away HO255.out (fun _ hk => hk.1)))) _).trans (hHeld.2.2.2.2.2.2.2.1)))))))))), ((cell_far (p := ⟨gb261, _, none⟩) (by first | exact Kd.own_blk (Kd.R_away HO255.out (fun _ hk => hk.1)) | (rw [add_block]; exact Kd.own_blk (Kd.R_away HO255.out (fun _ hk => hk.1))) | (show (Addr.add _ _).block ≠ _; rw [add_block]; exact Kd.own_blk (Kd.R_away HO255.out (fun _ hk => hk.1))) | (dsimp only; exact Kd.own_blk (Kd.R_away HO255.out (fun _ hk => hk.1)))) _).trans (((cell_far (p := ⟨gb261, _, none⟩) (by first | exact Kd.own_blk (Kd.R_away HO255.out (fun _ hk => hk.1)) | (rw [add_block]; exact Kd.own_blk (Kd.R_away HO255.out (fun _ hk => hk.1))) | (show (Addr.add _ _).block ≠ _; rw [add_block]; exact Kd.own_blk (Kd.R_away HO255.out (fun _ hk => hk.1))) | (dsimp only; exact Kd.own_blk (Kd.R_away HO255.out (fun _ hk => hk.1)))) _).trans (((cell_far (p := ⟨gb261, _, none⟩) (by first | exact Kd.own_blk (Kd.R_away HO255.out (fun _ hk => hk.1)) | (rw [add_block]; exact Kd.own_blk (Kd.R_away HO255.out (fun _ hk => hk.1))) | (show (Addr.add _ _).block ≠ _; rw [add_block]; exact Kd.own_blk (Kd.R_away HO255.out (fun _ hk => hk.1))) | (dsimp only; exact Kd.own_blk (Kd.R_away HO255.out (fun _ hk => hk.1)))) _).trans (((cell_far (p := ⟨gb261, _, none⟩) (by first | exact Kd.own_blk (Kd.R_away HO255.out (fun _ hk => hk.1)) | (rw [add_block]; exact Kd.own_blk (Kd.R_away HO255.out (fun _ hk => hk.1))) | (show (Addr.add _ _).block ≠ _; rw [add_block]; exact Kd.own_blk (Kd.R_away HO255.out (fun _ hk => hk.1))) | (dsimp only; exact Kd.own_blk (Kd.R_away HO255.out (fun _ hk => hk.1)))) _).trans (((cell_far (p := ⟨gb261, _, none⟩) (by first | exact Kd.own_blk (Kd.R_away HO255.out (fun _ hk => hk.1)) | (rw [add_block]; exact Kd.own_blk (Kd.R_away HO255.out (fun _ hk => hk.1))) | (show (Addr.add _ _).block ≠ _; rw [add_block]; exact Kd.own_blk (Kd.R_away HO255.out (fun _ hk => hk.1))) | (dsimp only; exact Kd.own_blk (Kd.R_away HO255.out (fun _ hk => hk.1)))) _).trans (hHeld.2.2.2.2.2.2.2.2.1)))))))))), ((cell_far (p := ⟨gb261, _, none⟩) (by first | exact Kd.own_blk (Kd.R_away HO255.out (fun _ hk => hk.1)) | (rw [add_block]; exact Kd.own_blk (Kd.R_away HO255.out (fun _ hk => hk.1))) | (show (Addr.add _ _).block ≠ _; rw [add_block]; exact Kd.own_blk (Kd.R_away HO255.out (fun _ hk => hk.1))) | (dsimp only; exact Kd.own_blk (Kd.R_away HO255.out (fun _ hk => hk.1)))) _).trans (((cell_far (p := ⟨gb261, _, none⟩) (by first | exact Kd.own_blk (Kd.R_away HO255.out (fun _ hk => hk.1)) | (rw [add_block]; exact Kd.own_blk (Kd.R_away HO255.out (fun _ hk => hk.1))) | (show (Addr.add _ _).block ≠ _; rw [add_block]; exact Kd.own_blk (Kd.R_away HO255.out (fun _ hk => hk.1))) | (dsimp only; exact Kd.own_blk (Kd.R_away HO255.out (fun _ hk => hk.1)))) _).trans (((cell_far (p := ⟨gb261, _, none⟩) (by first | exact Kd.own_blk (Kd.R_away HO255.out (fun _ hk => hk.1)) | (rw [add_block]; exact Kd.own_blk (Kd.R_away HO255.out (fun _ hk => hk.1))) | (show (Addr.add _ _).block ≠ _; rw [add_block]; exact Kd.own_blk (Kd.R_away HO255.out (fun _ hk => hk.1))) | (dsimp only; exact Kd.own_blk (Kd.R_away HO255.out (fun _ hk => hk.1)))) _).trans (((cell_far (p := ⟨gb261, _, none⟩) (by first | exact Kd.own_blk (Kd.R_away HO255.out (fun _ hk => hk.1)) | (rw [add_block]; exact Kd.own_blk (Kd.R_away HO255.out (fun _ hk => hk.1))) | (show (Addr.add _ _).block ≠ _; rw [add_block]; exact Kd.own_blk (Kd.R_away HO255.out (fun _ hk => hk.1))) | (dsimp only; exact Kd.own_blk (Kd.R_away HO255.out (fun _ hk => hk.1)))) _).trans (((cell_far (p := ⟨gb261, _, none⟩) (by first | exact Kd.own_blk (Kd.R_away HO255.out (fun _ hk => hk.1)) | (rw [add_block]; exact Kd.own_blk (Kd.R_away HO255.out (fun _ hk => hk.1))) | (show (Addr.add _ _).block ≠ _; rw [add_block]; exact Kd.own_blk (Kd.R_away HO255.out (fun _ hk => hk.1))) | (dsimp only; exact Kd.own_blk (Kd.R_away HO255.out (fun _ hk => hk.1)))) _).trans (hHeld.2.2.2.2.2.2.2.2.2))))))))))⟩ (fun hHeld => ?_)
        clear hK K
        refine one_ (i := 17) (N := none) #[true, true, true, true, true, true, true, true, true, true, true, true, true, true, true, true, true, true] rfl rfl (one_of HT_.out (by kernel_rfl)) (by decide) (fun K hK => ?_)
        have hs36 : w30.cell? ⟨gb262, 0, none⟩ = some (.int .i64 0) := (blk_cell BK262.out 0).trans rfl
        have hfs36 := blk_frozen BK262.out 0
        have hns36_0 := NB261_262.out
        have hms36_0 := NB262_261.out
        have hs37 : w30.cell? ⟨gb262, 1, none⟩ = some (.int .i64 0) := (blk_cell BK262.out 1).trans rfl
        have hfs37 := blk_frozen BK262.out 1
        have hns37_0 := NB261_262.out
        have hms37_0 := NB262_261.out
        have hs38 : w30.cell? ⟨gb262, 2, none⟩ = some (.int .i64 0) := (blk_cell BK262.out 2).trans rfl
        have hfs38 := blk_frozen BK262.out 2
        have hns38_0 := NB261_262.out
        have hms38_0 := NB262_261.out
        have hs39 : w30.cell? ⟨gb262, 3, none⟩ = some (.int .i64 0) := (blk_cell BK262.out 3).trans rfl
        have hfs39 := blk_frozen BK262.out 3
        have hns39_0 := NB261_262.out
        have hms39_0 := NB262_261.out
        have hs40 : w30.cell? ⟨gb262, 4, none⟩ = some (.bool false) := (blk_cell BK262.out 4).trans rfl
        have hfs40 := blk_frozen BK262.out 4
        have hns40_0 := NB261_262.out
        have hms40_0 := NB262_261.out
        refine skip_ (w1 := ?_) (by rfl) rfl ?_ ?_
        rotate_left
        ·go_simp
         rfl
        refine hK.out _ _ ⟨((cell_far (p := ⟨gb262, _, none⟩) (by first | exact Kd.own_blk (Kd.R_away HO255.out (fun _ hk => hk.2)) | (rw [add_block]; exact Kd.own_blk (Kd.R_away HO255.out (fun _ hk => hk.2))) | (show (Addr.add _ _).block ≠ _; rw [add_block]; exact Kd.own_blk (Kd.R_away HO255.out (fun _ hk => hk.2))) | (dsimp only; exact Kd.own_blk (Kd.R_away HO255.out (fun _ hk => hk.2)))) _).trans (((cell_far (p := ⟨gb262, _, none⟩) (by first | exact Kd.own_blk (Kd.R_away HO255.out (fun _ hk => hk.2)) | (rw [add_block]; exact Kd.own_blk (Kd.R_away HO255.out (fun _ hk => hk.2))) | (show (Addr.add _ _).block ≠ _; rw [add_block]; exact Kd.own_blk (Kd.R_away HO255.out (fun _ hk => hk.2))) | (dsimp only; exact Kd.own_blk (Kd.R_away HO255.out (fun _ hk => hk.2)))) _).trans (((cell_far (p := ⟨gb262, _, none⟩) (by first | exact Kd.own_blk (Kd.R_away HO255.out (fun _ hk => hk.2)) | (rw [add_block]; exact Kd.own_blk (Kd.R_away HO255.out (fun _ hk => hk.2))) | (show (Addr.add _ _).block ≠ _; rw [add_block]; exact Kd.own_blk (Kd.R_away HO255.out (fun _ hk => hk.2))) | (dsimp only; exact Kd.own_blk (Kd.R_away HO255.out (fun _ hk => hk.2)))) _).trans (((cell_far (p := ⟨gb262, _, none⟩) (by first | exact Kd.own_blk (Kd.R_away HO255.out (fun _ hk => hk.2)) | (rw [add_block]; exact Kd.own_blk (Kd.R_away HO255.out (fun _ hk => hk.2))) | (show (Addr.add _ _).block ≠ _; rw [add_block]; exact Kd.own_blk (Kd.R_away HO255.out (fun _ hk => hk.2))) | (dsimp only; exact Kd.own_blk (Kd.R_away HO255.out (fun _ hk => hk.2)))) _).trans (((cell_far (p := ⟨gb262, _, none⟩) (by first | exact Kd.own_blk (Kd.R_away HO255.out (fun _ hk => hk.2)) | (rw [add_block]; exact Kd.own_blk (Kd.R_away HO255.out (fun _ hk => hk.2))) | (show (Addr.add _ _).block ≠ _; rw [add_block]; exact Kd.own_blk (Kd.R_away HO255.out (fun _ hk => hk.2))) | (dsimp only; exact Kd.own_blk (Kd.R_away HO255.out (fun _ hk => hk.2)))) _).trans (hHeld.1)))))))))), ((cell_far (p := ⟨gb262, _, none⟩) (by first | exact Kd.own_blk (Kd.R_away HO255.out (fun _ hk => hk.2)) | (rw [add_block]; exact Kd.own_blk (Kd.R_away HO255.out (fun _ hk => hk.2))) | (show (Addr.add _ _).block ≠ _; rw [add_block]; exact Kd.own_blk (Kd.R_away HO255.out (fun _ hk => hk.2))) | (dsimp only; exact Kd.own_blk (Kd.R_away HO255.out (fun _ hk => hk.2)))) _).trans (((cell_far (p := ⟨gb262, _, none⟩) (by first | exact Kd.own_blk (Kd.R_away HO255.out (fun _ hk => hk.2)) | (rw [add_block]; exact Kd.own_blk (Kd.R_away HO255.out (fun _ hk => hk.2))) | (show (Addr.add _ _).block ≠ _; rw [add_block]; exact Kd.own_blk (Kd.R_away HO255.out (fun _ hk => hk.2))) | (dsimp only; exact Kd.own_blk (Kd.R_away HO255.out (fun _ hk => hk.2)))) _).trans (((cell_far (p := ⟨gb262, _, none⟩) (by first | exact Kd.own_blk (Kd.R_away HO255.out (fun _ hk => hk.2)) | (rw [add_block]; exact Kd.own_blk (Kd.R_away HO255.out (fun _ hk => hk.2))) | (show (Addr.add _ _).block ≠ _; rw [add_block]; exact Kd.own_blk (Kd.R_away HO255.out (fun _ hk => hk.2))) | (dsimp only; exact Kd.own_blk (Kd.R_away HO255.out (fun _ hk => hk.2)))) _).trans (((cell_far (p := ⟨gb262, _, none⟩) (by first | exact Kd.own_blk (Kd.R_away HO255.out (fun _ hk => hk.2)) | (rw [add_block]; exact Kd.own_blk (Kd.R_away HO255.out (fun _ hk => hk.2))) | (show (Addr.add _ _).block ≠ _; rw [add_block]; exact Kd.own_blk (Kd.R_away HO255.out (fun _ hk => hk.2))) | (dsimp only; exact Kd.own_blk (Kd.R_away HO255.out (fun _ hk => hk.2)))) _).trans (((cell_far (p := ⟨gb262, _, none⟩) (by first | exact Kd.own_blk (Kd.R_away HO255.out (fun _ hk => hk.2)) | (rw [add_block]; exact Kd.own_blk (Kd.R_away HO255.out (fun _ hk => hk.2))) | (show (Addr.add _ _).block ≠ _; rw [add_block]; exact Kd.own_blk (Kd.R_away HO255.out (fun _ hk => hk.2))) | (dsimp only; exact Kd.own_blk (Kd.R_away HO255.out (fun _ hk => hk.2)))) _).trans (hHeld.2.1)))))))))), ((cell_far (p := ⟨gb262, _, none⟩) (by first | exact Kd.own_blk (Kd.R_away HO255.out (fun _ hk => hk.2)) | (rw [add_block]; exact Kd.own_blk (Kd.R_away HO255.out (fun _ hk => hk.2))) | (show (Addr.add _ _).block ≠ _; rw [add_block]; exact Kd.own_blk (Kd.R_away HO255.out (fun _ hk => hk.2))) | (dsimp only; exact Kd.own_blk (Kd.R_away HO255.out (fun _ hk => hk.2)))) _).trans (((cell_far (p := ⟨gb262, _, none⟩) (by first | exact Kd.own_blk (Kd.R_away HO255.out (fun _ hk => hk.2)) | (rw [add_block]; exact Kd.own_blk (Kd.R_away HO255.out (fun _ hk => hk.2))) | (show (Addr.add _ _).block ≠ _; rw [add_block]; exact Kd.own_blk (Kd.R_away HO255.out (fun _ hk => hk.2))) | (dsimp only; exact Kd.own_blk (Kd.R_away HO255.out (fun _ hk => hk.2)))) _).trans (((cell_far (p := ⟨gb262, _, none⟩) (by first | exact Kd.own_blk (Kd.R_away HO255.out (fun _ hk => hk.2)) | (rw [add_block]; exact Kd.own_blk (Kd.R_away HO255.out (fun _ hk => hk.2))) | (show (Addr.add _ _).block ≠ _; rw [add_block]; exact Kd.own_blk (Kd.R_away HO255.out (fun _ hk => hk.2))) | (dsimp only; exact Kd.own_blk (Kd.R_away HO255.out (fun _ hk => hk.2)))) _).trans (((cell_far (p := ⟨gb262, _, none⟩) (by first | exact Kd.own_blk (Kd.R_away HO255.out (fun _ hk => hk.2)) | (rw [add_block]; exact Kd.own_blk (Kd.R_away HO255.out (fun _ hk => hk.2))) | (show (Addr.add _ _).block ≠ _; rw [add_block]; exact Kd.own_blk (Kd.R_away HO255.out (fun _ hk => hk.2))) | (dsimp only; exact Kd.own_blk (Kd.R_away HO255.out (fun _ hk => hk.2)))) _).trans (((cell_far (p := ⟨gb262, _, none⟩) (by first | exact Kd.own_blk (Kd.R_away HO255.out (fun _ hk => hk.2)) | (rw [add_block]; exact Kd.own_blk (Kd.R_away HO255.out (fun _ hk => hk.2))) | (show (Addr.add _ _).block ≠ _; rw [add_block]; exact Kd.own_blk (Kd.R_away HO255.out (fun _ hk => hk.2))) | (dsimp only; exact Kd.own_blk (Kd.R_away HO255.out (fun _ hk => hk.2)))) _).trans (hHeld.2.2.1)))))))))), ((cell_far (p := ⟨gb262, _, none⟩) (by first | exact Kd.own_blk (Kd.R_away HO255.out (fun _ hk => hk.2)) | (rw [add_block]; exact Kd.own_blk (Kd.R_away HO255.out (fun _ hk => hk.2))) | (show (Addr.add _ _).block ≠ _; rw [add_block]; exact Kd.own_blk (Kd.R_away HO255.out (fun _ hk => hk.2))) | (dsimp only; exact Kd.own_blk (Kd.R_away HO255.out (fun _ hk => hk.2)))) _).trans (((cell_far (p := ⟨gb262, _, none⟩) (by first | exact Kd.own_blk (Kd.R_away HO255.out (fun _ hk => hk.2)) | (rw [add_block]; exact Kd.own_blk (Kd.R_away HO255.out (fun _ hk => hk.2))) | (show (Addr.add _ _).block ≠ _; rw [add_block]; exact Kd.own_blk (Kd.R_away HO255.out (fun _ hk => hk.2))) | (dsimp only; exact Kd.own_blk (Kd.R_away HO255.out (fun _ hk => hk.2)))) _).trans (((cell_far (p := ⟨gb262, _, none⟩) (by first | exact Kd.own_blk (Kd.R_away HO255.out (fun _ hk => hk.2)) | (rw [add_block]; exact Kd.own_blk (Kd.R_away HO255.out (fun _ hk => hk.2))) | (show (Addr.add _ _).block ≠ _; rw [add_block]; exact Kd.own_blk (Kd.R_away HO255.out (fun _ hk => hk.2))) | (dsimp only; exact Kd.own_blk (Kd.R_away HO255.out (fun _ hk => hk.2)))) _).trans (((cell_far (p := ⟨gb262, _, none⟩) (by first | exact Kd.own_blk (Kd.R_away HO255.out (fun _ hk => hk.2)) | (rw [add_block]; exact Kd.own_blk (Kd.R_away HO255.out (fun _ hk => hk.2))) | (show (Addr.add _ _).block ≠ _; rw [add_block]; exact Kd.own_blk (Kd.R_away HO255.out (fun _ hk => hk.2))) | (dsimp only; exact Kd.own_blk (Kd.R_away HO255.out (fun _ hk => hk.2)))) _).trans (((cell_far (p := ⟨gb262, _, none⟩) (by first | exact Kd.own_blk (Kd.R_away HO255.out (fun _ hk => hk.2)) | (rw [add_block]; exact Kd.own_blk (Kd.R_away HO255.out (fun _ hk => hk.2))) | (show (Addr.add _ _).block ≠ _; rw [add_block]; exact Kd.own_blk (Kd.R_away HO255.out (fun _ hk => hk.2))) | (dsimp only; exact Kd.own_blk (Kd.R_away HO255.out (fun _ hk => hk.2)))) _).trans (hHeld.2.2.2.1)))))))))), ((cell_far (p := ⟨gb262, _, none⟩) (by first | exact Kd.own_blk (Kd.R_away HO255.out (fun _ hk => hk.2)) | (rw [add_block]; exact Kd.own_blk (Kd.R_away HO255.out (fun _ hk => hk.2))) | (show (Addr.add _ _).block ≠ _; rw [add_block]; exact Kd.own_blk (Kd.R_away HO255.out (fun _ hk => hk.2))) | (dsimp only; exact Kd.own_blk (Kd.R_away HO255.out (fun _ hk => hk.2)))) _).trans (((cell_far (p := ⟨gb262, _, none⟩) (by first | exact Kd.own_blk (Kd.R_away HO255.out (fun _ hk => hk.2)) | (rw [add_block]; exact Kd.own_blk (Kd.R_away HO255.out (fun _ hk => hk.2))) | (show (Addr.add _ _).block ≠ _; rw [add_block]; exact Kd.own_blk (Kd.R_away HO255.out (fun _ hk => hk.2))) | (dsimp only; exact Kd.own_blk (Kd.R_away HO255.out (fun _ hk => hk.2)))) _).trans (((cell_far (p := ⟨gb262, _, none⟩) (by first | exact Kd.own_blk (Kd.R_away HO255.out (fun _ hk => hk.2)) | (rw [add_block]; exact Kd.own_blk (Kd.R_away HO255.out (fun _ hk => hk.2))) | (show (Addr.add _ _).block ≠ _; rw [add_block]; exact Kd.own_blk (Kd.R_away HO255.out (fun _ hk => hk.2))) | (dsimp only; exact Kd.own_blk (Kd.R_away HO255.out (fun _ hk => hk.2)))) _).trans (((cell_far (p := ⟨gb262, _, none⟩) (by first | exact Kd.own_blk (Kd.R_away HO255.out (fun _ hk => hk.2)) | (rw [add_block]; exact Kd.own_blk (Kd.R_away HO255.out (fun _ hk => hk.2))) | (show (Addr.add _ _).block ≠ _; rw [add_block]; exact Kd.own_blk (Kd.R_away HO255.out (fun _ hk => hk.2))) | (dsimp only; exact Kd.own_blk (Kd.R_away HO255.out (fun _ hk => hk.2)))) _).trans (((cell_far (p := ⟨gb262, _, none⟩) (by first | exact Kd.own_blk (Kd.R_away HO255.out (fun _ hk => hk.2)) | (rw [add_block]; exact Kd.own_blk (Kd.R_away HO255.out (fun _ hk => hk.2))) | (show (Addr.add _ _).block ≠ _; rw [add_block]; exact Kd.own_blk (Kd.R_away HO255.out (fun _ hk => hk.2))) | (dsimp only; exact Kd.own_blk (Kd.R_away HO255.out (fun _ hk => hk.2)))) _).trans (hHeld.2.2.2.2.1)))))))))), ((cell_far (p := ⟨gb262, _, none⟩) (by first | exact Kd.own_blk (Kd.R_away HO255.out (fun _ hk => hk.2)) | (rw [add_block]; exact Kd.own_blk (Kd.R_away HO255.out (fun _ hk => hk.2))) | (show (Addr.add _ _).block ≠ _; rw [add_block]; exact Kd.own_blk (Kd.R_away HO255.out (fun _ hk => hk.2))) | (dsimp only; exact Kd.own_blk (Kd.R_away HO255.out (fun _ hk => hk.2)))) _).trans (((cell_far (p := ⟨gb262, _, none⟩) (by first | exact Kd.own_blk (Kd.R_away HO255.out (fun _ hk => hk.2)) | (rw [add_block]; exact Kd.own_blk (Kd.R_away HO255.out (fun _ hk => hk.2))) | (show (Addr.add _ _).block ≠ _; rw [add_block]; exact Kd.own_blk (Kd.R_away HO255.out (fun _ hk => hk.2))) | (dsimp only; exact Kd.own_blk (Kd.R_away HO255.out (fun _ hk => hk.2)))) _).trans (((cell_far (p := ⟨gb262, _, none⟩) (by first | exact Kd.own_blk (Kd.R_away HO255.out (fun _ hk => hk.2)) | (rw [add_block]; exact Kd.own_blk (Kd.R_away HO255.out (fun _ hk => hk.2))) | (show (Addr.add _ _).block ≠ _; rw [add_block]; exact Kd.own_blk (Kd.R_away HO255.out (fun _ hk => hk.2))) | (dsimp only; exact Kd.own_blk (Kd.R_away HO255.out (fun _ hk => hk.2)))) _).trans (((cell_far (p := ⟨gb262, _, none⟩) (by first | exact Kd.own_blk (Kd.R_away HO255.out (fun _ hk => hk.2)) | (rw [add_block]; exact Kd.own_blk (Kd.R_away HO255.out (fun _ hk => hk.2))) | (show (Addr.add _ _).block ≠ _; rw [add_block]; exact Kd.own_blk (Kd.R_away HO255.out (fun _ hk => hk.2))) | (dsimp only; exact Kd.own_blk (Kd.R_away HO255.out (fun _ hk => hk.2)))) _).trans (((cell_far (p := ⟨gb262, _, none⟩) (by first | exact Kd.own_blk (Kd.R_away HO255.out (fun _ hk => hk.2)) | (rw [add_block]; exact Kd.own_blk (Kd.R_away HO255.out (fun _ hk => hk.2))) | (show (Addr.add _ _).block ≠ _; rw [add_block]; exact Kd.own_blk (Kd.R_away HO255.out (fun _ hk => hk.2))) | (dsimp only; exact Kd.own_blk (Kd.R_away HO255.out (fun _ hk => hk.2)))) _).trans (hHeld.2.2.2.2.2.1)))))))))), ((cell_far (p := ⟨gb262, _, none⟩) (by first | exact Kd.own_blk (Kd.R_away HO255.out (fun _ hk => hk.2)) | (rw [add_block]; exact Kd.own_blk (Kd.R_away HO255.out (fun _ hk => hk.2))) | (show (Addr.add _ _).block ≠ _; rw [add_block]; exact Kd.own_blk (Kd.R_away HO255.out (fun _ hk => hk.2))) | (dsimp only; exact Kd.own_blk (Kd.R_away HO255.out (fun _ hk => hk.2)))) _).trans (((cell_far (p := ⟨gb262, _, none⟩) (by first | exact Kd.own_blk (Kd.R_away HO255.out (fun _ hk => hk.2)) | (rw [add_block]; exact Kd.own_blk (Kd.R_away HO255.out (fun _ hk => hk.2))) | (show (Addr.add _ _).block ≠ _; rw [add_block]; exact Kd.own_blk (Kd.R_away HO255.out (fun _ hk => hk.2))) | (dsimp only; exact Kd.own_blk (Kd.R_away HO255.out (fun _ hk => hk.2)))) _).trans (((cell_far (p := ⟨gb262, _, none⟩) (by first | exact Kd.own_blk (Kd.R_away HO255.out (fun _ hk => hk.2)) | (rw [add_block]; exact Kd.own_blk (Kd.R_away HO255.out (fun _ hk => hk.2))) | (show (Addr.add _ _).block ≠ _; rw [add_block]; exact Kd.own_blk (Kd.R_away HO255.out (fun _ hk => hk.2))) | (dsimp only; exact Kd.own_blk (Kd.R_away HO255.out (fun _ hk => hk.2)))) _).trans (((cell_far (p := ⟨gb262, _, none⟩) (by first | exact Kd.own_blk (Kd.R_away HO255.out (fun _ hk => hk.2)) | (rw [add_block]; exact Kd.own_blk (Kd.R_away HO255.out (fun _ hk => hk.2))) | (show (Addr.add _ _).block ≠ _; rw [add_block]; exact Kd.own_blk (Kd.R_away HO255.out (fun _ hk => hk.2))) | (dsimp only; exact Kd.own_blk (Kd.R_away HO255.out (fun _ hk => hk.2)))) _).trans (((cell_far (p := ⟨gb262, _, none⟩) (by first | exact Kd.own_blk (Kd.R_away HO255.out (fun _ hk => hk.2)) | (rw [add_block]; exact Kd.own_blk (Kd.R_away HO255.out (fun _ hk => hk.2))) | (show (Addr.add _ _).block ≠ _; rw [add_block]; exact Kd.own_blk (Kd.R_away HO255.out (fun _ hk => hk.2))) | (dsimp only; exact Kd.own_blk (Kd.R_away HO255.out (fun _ hk => hk.2)))) _).trans (hHeld.2.2.2.2.2.2.1)))))))))), ((cell_far (p := ⟨gb262, _, none⟩) (by first | exact Kd.own_blk (Kd.R_away HO255.out (fun _ hk => hk.2)) | (rw [add_block]; exact Kd.own_blk (Kd.R_away HO255.out (fun _ hk => hk.2))) | (show (Addr.add _ _).block ≠ _; rw [add_block]; exact Kd.own_blk (Kd.R_away HO255.out (fun _ hk => hk.2))) | (dsimp only; exact Kd.own_blk (Kd.R_away HO255.out (fun _ hk => hk.2)))) _).trans (((cell_far (p := ⟨gb262, _, none⟩) (by first | exact Kd.own_blk (Kd.R_away HO255.out (fun _ hk => hk.2)) | (rw [add_block]; exact Kd.own_blk (Kd.R_away HO255.out (fun _ hk => hk.2))) | (show (Addr.add _ _).block ≠ _; rw [add_block]; exact Kd.own_blk (Kd.R_away HO255.out (fun _ hk => hk.2))) | (dsimp only; exact Kd.own_blk (Kd.R_away HO255.out (fun _ hk => hk.2)))) _).trans (((cell_far (p := ⟨gb262, _, none⟩) (by first | exact Kd.own_blk (Kd.R_away HO255.out (fun _ hk => hk.2)) | (rw [add_block]; exact Kd.own_blk (Kd.R_away HO255.out (fun _ hk => hk.2))) | (show (Addr.add _ _).block ≠ _; rw [add_block]; exact Kd.own_blk (Kd.R_away HO255.out (fun _ hk => hk.2))) | (dsimp only; exact Kd.own_blk (Kd.R_away HO255.out (fun _ hk => hk.2)))) _).trans (((cell_far (p := ⟨gb262, _, none⟩) (by first | exact Kd.own_blk (Kd.R_away HO255.out (fun _ hk => hk.2)) | (rw [add_block]; exact Kd.own_blk (Kd.R_away HO255.out (fun _ hk => hk.2))) | (show (Addr.add _ _).block ≠ _; rw [add_block]; exact Kd.own_blk (Kd.R_away HO255.out (fun _ hk => hk.2))) | (dsimp only; exact Kd.own_blk (Kd.R_away HO255.out (fun _ hk => hk.2)))) _).trans (((cell_far (p := ⟨gb262, _, none⟩) (by first | exact Kd.own_blk (Kd.R_away HO255.out (fun _ hk => hk.2)) | (rw [add_block]; exact Kd.own_blk (Kd.R_away HO255.out (fun _ hk => hk.2))) | (show (Addr.add _ _).block ≠ _; rw [add_block]; exact Kd.own_blk (Kd.R_away HO255.out (fun _ hk => hk.2))) | (dsimp only; exact Kd.own_blk (Kd.R_away HO255.out (fun _ hk => hk.2)))) _).trans (hHeld.2.2.2.2.2.2.2.1)))))))))), ((cell_far (p := ⟨gb262, _, none⟩) (by first | exact Kd.own_blk (Kd.R_away HO255.out (fun _ hk => hk.2)) | (rw [add_block]; exact Kd.own_blk (Kd.R_away HO255.out (fun _ hk => hk.2))) | (show (Addr.add _ _).block ≠ _; rw [add_block]; exact Kd.own_blk (Kd.R_away HO255.out (fun _ hk => hk.2))) | (dsimp only; exact Kd.own_blk (Kd.R_away HO255.out (fun _ hk => hk.2)))) _).trans (((cell_far (p := ⟨gb262, _, none⟩) (by first | exact Kd.own_blk (Kd.R_away HO255.out (fun _ hk => hk.2)) | (rw [add_block]; exact Kd.own_blk (Kd.R_away HO255.out (fun _ hk => hk.2))) | (show (Addr.add _ _).block ≠ _; rw [add_block]; exact Kd.own_blk (Kd.R_away HO255.out (fun _ hk => hk.2))) | (dsimp only; exact Kd.own_blk (Kd.R_away HO255.out (fun _ hk => hk.2)))) _).trans (((cell_far (p := ⟨gb262, _, none⟩) (by first | exact Kd.own_blk (Kd.R_away HO255.out (fun _ hk => hk.2)) | (rw [add_block]; exact Kd.own_blk (Kd.R_away HO255.out (fun _ hk => hk.2))) | (show (Addr.add _ _).block ≠ _; rw [add_block]; exact Kd.own_blk (Kd.R_away HO255.out (fun _ hk => hk.2))) | (dsimp only; exact Kd.own_blk (Kd.R_away HO255.out (fun _ hk => hk.2)))) _).trans (((cell_far (p := ⟨gb262, _, none⟩) (by first | exact Kd.own_blk (Kd.R_away HO255.out (fun _ hk => hk.2)) | (rw [add_block]; exact Kd.own_blk (Kd.R_away HO255.out (fun _ hk => hk.2))) | (show (Addr.add _ _).block ≠ _; rw [add_block]; exact Kd.own_blk (Kd.R_away HO255.out (fun _ hk => hk.2))) | (dsimp only; exact Kd.own_blk (Kd.R_away HO255.out (fun _ hk => hk.2)))) _).trans (((cell_far (p := ⟨gb262, _, none⟩) (by first | exact Kd.own_blk (Kd.R_away HO255.out (fun _ hk => hk.2)) | (rw [add_block]; exact Kd.own_blk (Kd.R_away HO255.out (fun _ hk => hk.2))) | (show (Addr.add _ _).block ≠ _; rw [add_block]; exact Kd.own_blk (Kd.R_away HO255.out (fun _ hk => hk.2))) | (dsimp only; exact Kd.own_blk (Kd.R_away HO255.out (fun _ hk => hk.2)))) _).trans (hHeld.2.2.2.2.2.2.2.2.1)))))))))), ((cell_far (p := ⟨gb262, _, none⟩) (by first | exact Kd.own_blk (Kd.R_away HO255.out (fun _ hk => hk.2)) | (rw [add_block]; exact Kd.own_blk (Kd.R_away HO255.out (fun _ hk => hk.2))) | (show (Addr.add _ _).block ≠ _; rw [add_block]; exact Kd.own_blk (Kd.R_away HO255.out (fun _ hk => hk.2))) | (dsimp only; exact Kd.own_blk (Kd.R_away HO255.out (fun _ hk => hk.2)))) _).trans (((cell_far (p := ⟨gb262, _, none⟩) (by first | exact Kd.own_blk (Kd.R_away HO255.out (fun _ hk => hk.2)) | (rw [add_block]; exact Kd.own_blk (Kd.R_away HO255.out (fun _ hk => hk.2))) | (show (Addr.add _ _).block ≠ _; rw [add_block]; exact Kd.own_blk (Kd.R_away HO255.out (fun _ hk => hk.2))) | (dsimp only; exact Kd.own_blk (Kd.R_away HO255.out (fun _ hk => hk.2)))) _).trans (((cell_far (p := ⟨gb262, _, none⟩) (by first | exact Kd.own_blk (Kd.R_away HO255.out (fun _ hk => hk.2)) | (rw [add_block]; exact Kd.own_blk (Kd.R_away HO255.out (fun _ hk => hk.2))) | (show (Addr.add _ _).block ≠ _; rw [add_block]; exact Kd.own_blk (Kd.R_away HO255.out (fun _ hk => hk.2))) | (dsimp only; exact Kd.own_blk (Kd.R_away HO255.out (fun _ hk => hk.2)))) _).trans (((cell_far (p := ⟨gb262, _, none⟩) (by first | exact Kd.own_blk (Kd.R_away HO255.out (fun _ hk => hk.2)) | (rw [add_block]; exact Kd.own_blk (Kd.R_away HO255.out (fun _ hk => hk.2))) | (show (Addr.add _ _).block ≠ _; rw [add_block]; exact Kd.own_blk (Kd.R_away HO255.out (fun _ hk => hk.2))) | (dsimp only; exact Kd.own_blk (Kd.R_away HO255.out (fun _ hk => hk.2)))) _).trans (((cell_far (p := ⟨gb262, _, none⟩) (by first | exact Kd.own_blk (Kd.R_away HO255.out (fun _ hk => hk.2)) | (rw [add_block]; exact Kd.own_blk (Kd.R_away HO255.out (fun _ hk => hk.2))) | (show (Addr.add _ _).block ≠ _; rw [add_block]; exact Kd.own_blk (Kd.R_away HO255.out (fun _ hk => hk.2))) | (dsimp only; exact Kd.own_blk (Kd.R_away HO255.out (fun _ hk => hk.2)))) _).trans (hHeld.2.2.2.2.2.2.2.2.2))))))))))⟩ (fun hHeld => ?_)
        clear hK K
        refine done_ (done_of HT_.out (by kernel_rfl)) ?_
        try go_wp2
        have n0_ : Aside0 (Kd.R k28 28 ((((((((((w30.setCell ⟨gb261, 0, none⟩ (.int .i64 ((rd_T28 t252 t257).f0))).setCell ⟨gb261, 1, none⟩ (.int .i64 ((rd_T28 t252 t257).f1))).setCell ⟨gb261, 2, none⟩ (.int .i64 ((rd_T28 t252 t257).f2))).setCell ⟨gb261, 3, none⟩ (.int .i64 ((rd_T28 t252 t257).f3))).setCell ⟨gb261, 4, none⟩ (.bool ((rd_T28 t252 t257).f4))).setCell ⟨gb262, 0, none⟩ (.int .i64 ((rd_T28 t252 t259).f0))).setCell ⟨gb262, 1, none⟩ (.int .i64 ((rd_T28 t252 t259).f1))).setCell ⟨gb262, 2, none⟩ (.int .i64 ((rd_T28 t252 t259).f2))).setCell ⟨gb262, 3, none⟩ (.int .i64 ((rd_T28 t252 t259).f3))).setCell ⟨gb262, 4, none⟩ (.bool ((rd_T28 t252 t259).f4))) w.heap.size (fun k_ => k_ ≠ gb261 ∧ k_ ≠ gb262) (.slice (some ad258) t252.length co26) t252) := ⟨by (with_reducible repeat (first | apply Kd.R_alloc | apply Kd.R_drewN | apply Kd.R_drew)); exact Kd.R_mono (Kd.R_far (p := ⟨gb262, 4, none⟩) (Kd.R_far (p := ⟨gb262, 3, none⟩) (Kd.R_far (p := ⟨gb262, 2, none⟩) (Kd.R_far (p := ⟨gb262, 1, none⟩) (Kd.R_far (p := ⟨gb262, 0, none⟩) (Kd.R_far (p := ⟨gb261, 4, none⟩) (Kd.R_far (p := ⟨gb261, 3, none⟩) (Kd.R_far (p := ⟨gb261, 2, none⟩) (Kd.R_far (p := ⟨gb261, 1, none⟩) (Kd.R_far (p := ⟨gb261, 0, none⟩) (Kd.R_mono (Kd.R_mono HO255.out (fun k_ hk => (⟨hk, hk.1⟩ : _ ∧ k_ ≠ gb261))) (fun k_ hk => (⟨hk, hk.1.2⟩ : _ ∧ k_ ≠ gb262))) (fun _ hk => hk.1.2) (.int .i64 ((rd_T28 t252 t257).f0))) (fun _ hk => hk.1.2) (.int .i64 ((rd_T28 t252 t257).f1))) (fun _ hk => hk.1.2) (.int .i64 ((rd_T28 t252 t257).f2))) (fun _ hk => hk.1.2) (.int .i64 ((rd_T28 t252 t257).f3))) (fun _ hk => hk.1.2) (.bool ((rd_T28 t252 t257).f4))) (fun _ hk => hk.2) (.int .i64 ((rd_T28 t252 t259).f0))) (fun _ hk => hk.2) (.int .i64 ((rd_T28 t252 t259).f1))) (fun _ hk => hk.2) (.int .i64 ((rd_T28 t252 t259).f2))) (fun _ hk => hk.2) (.int .i64 ((rd_T28 t252 t259).f3))) (fun _ hk => hk.2) (.bool ((rd_T28 t252 t259).f4))) (fun _ hk => ⟨hk.1.1.1, hk.1.1.2⟩)⟩
        have n1_ : Aside0 (((((((((((w30.setCell ⟨gb261, 0, none⟩ (.int .i64 ((rd_T28 t252 t257).f0))).setCell ⟨gb261, 1, none⟩ (.int .i64 ((rd_T28 t252 t257).f1))).setCell ⟨gb261, 2, none⟩ (.int .i64 ((rd_T28 t252 t257).f2))).setCell ⟨gb261, 3, none⟩ (.int .i64 ((rd_T28 t252 t257).f3))).setCell ⟨gb261, 4, none⟩ (.bool ((rd_T28 t252 t257).f4))).setCell ⟨gb262, 0, none⟩ (.int .i64 ((rd_T28 t252 t259).f0))).setCell ⟨gb262, 1, none⟩ (.int .i64 ((rd_T28 t252 t259).f1))).setCell ⟨gb262, 2, none⟩ (.int .i64 ((rd_T28 t252 t259).f2))).setCell ⟨gb262, 3, none⟩ (.int .i64 ((rd_T28 t252 t259).f3))).setCell ⟨gb262, 4, none⟩ (.bool ((rd_T28 t252 t259).f4))).heap[gb261]? = some (.cells #[.int .i64 ((rd_T28 t252 t257).f0), .int .i64 ((rd_T28 t252 t257).f1), .int .i64 ((rd_T28 t252 t257).f2), .int .i64 ((rd_T28 t252 t257).f3), .bool ((rd_T28 t252 t257).f4)] 28 (0, 0))) := ⟨by (with_reducible repeat (first | refine blk_drewN ?_ _ | refine blk_drew ?_ | refine blk_alloc ?_ _)); refine blk_far ?_ NB261_262.out _; (with_reducible repeat (first | refine blk_drewN ?_ _ | refine blk_drew ?_ | refine blk_alloc ?_ _)); refine blk_far ?_ NB261_262.out _; (with_reducible repeat (first | refine blk_drewN ?_ _ | refine blk_drew ?_ | refine blk_alloc ?_ _)); refine blk_far ?_ NB261_262.out _; (with_reducible repeat (first | refine blk_drewN ?_ _ | refine blk_drew ?_ | refine blk_alloc ?_ _)); refine blk_far ?_ NB261_262.out _; (with_reducible repeat (first | refine blk_drewN ?_ _ | refine blk_drew ?_ | refine blk_alloc ?_ _)); refine blk_far ?_ NB261_262.out _; (with_reducible repeat (first | refine blk_drewN ?_ _ | refine blk_drew ?_ | refine blk_alloc ?_ _)); refine blk_put (cs := #[.int .i64 ((rd_T28 t252 t257).f0), .int .i64 ((rd_T28 t252 t257).f1), .int .i64 ((rd_T28 t252 t257).f2), .int .i64 ((rd_T28 t252 t257).f3), .bool false]) ?_ 4 _ rfl; (with_reducible repeat (first | refine blk_drewN ?_ _ | refine blk_drew ?_ | refine blk_alloc ?_ _)); refine blk_put (cs := #[.int .i64 ((rd_T28 t252 t257).f0), .int .i64 ((rd_T28 t252 t257).f1), .int .i64 ((rd_T28 t252 t257).f2), .int .i64 0, .bool false]) ?_ 3 _ rfl; (with_reducible repeat (first | refine blk_drewN ?_ _ | refine blk_drew ?_ | refine blk_alloc ?_ _)); refine blk_put (cs := #[.int .i64 ((rd_T28 t252 t257).f0), .int .i64 ((rd_T28 t252 t257).f1), .int .i64 0, .int .i64 0, .bool false]) ?_ 2 _ rfl; (with_reducible repeat (first | refine blk_drewN ?_ _ | refine blk_drew ?_ | refine blk_alloc ?_ _)); refine blk_put (cs := #[.int .i64 ((rd_T28 t252 t257).f0), .int .i64 0, .int .i64 0, .int .i64 0, .bool false]) ?_ 1 _ rfl; (with_reducible repeat (first | refine blk_drewN ?_ _ | refine blk_drew ?_ | refine blk_alloc ?_ _)); refine blk_put (cs := #[.int .i64 0, .int .i64 0, .int .i64 0, .int .i64 0, .bool false]) ?_ 0 _ rfl; (with_reducible repeat (first | refine blk_drewN ?_ _ | refine blk_drew ?_ | refine blk_alloc ?_ _)); exact BK261.out⟩
        have n2_ : Aside0 (((((((((((w30.setCell ⟨gb261, 0, none⟩ (.int .i64 ((rd_T28 t252 t257).f0))).setCell ⟨gb261, 1, none⟩ (.int .i64 ((rd_T28 t252 t257).f1))).setCell ⟨gb261, 2, none⟩ (.int .i64 ((rd_T28 t252 t257).f2))).setCell ⟨gb261, 3, none⟩ (.int .i64 ((rd_T28 t252 t257).f3))).setCell ⟨gb261, 4, none⟩ (.bool ((rd_T28 t252 t257).f4))).setCell ⟨gb262, 0, none⟩ (.int .i64 ((rd_T28 t252 t259).f0))).setCell ⟨gb262, 1, none⟩ (.int .i64 ((rd_T28 t252 t259).f1))).setCell ⟨gb262, 2, none⟩ (.int .i64 ((rd_T28 t252 t259).f2))).setCell ⟨gb262, 3, none⟩ (.int .i64 ((rd_T28 t252 t259).f3))).setCell ⟨gb262, 4, none⟩ (.bool ((rd_T28 t252 t259).f4))).heap[gb262]? = some (.cells #[.int .i64 ((rd_T28 t252 t259).f0), .int .i64 ((rd_T28 t252 t259).f1), .int .i64 ((rd_T28 t252 t259).f2), .int .i64 ((rd_T28 t252 t259).f3), .bool ((rd_T28 t252 t259).f4)] 28 (0, 0))) := ⟨by (with_reducible repeat (first | refine blk_drewN ?_ _ | refine blk_drew ?_ | refine blk_alloc ?_ _)); refine blk_put (cs := #[.int .i64 ((rd_T28 t252 t259).f0), .int .i64 ((rd_T28 t252 t259).f1), .int .i64 ((rd_T28 t252 t259).f2), .int .i64 ((rd_T28 t252 t259).f3), .bool false]) ?_ 4 _ rfl; (with_reducible repeat (first | refine blk_drewN ?_ _ | refine blk_drew ?_ | refine blk_alloc ?_ _)); refine blk_put (cs := #[.int .i64 ((rd_T28 t252 t259).f0), .int .i64 ((rd_T28 t252 t259).f1), .int .i64 ((rd_T28 t252 t259).f2), .int .i64 0, .bool false]) ?_ 3 _ rfl; (with_reducible repeat (first | refine blk_drewN ?_ _ | refine blk_drew ?_ | refine blk_alloc ?_ _)); refine blk_put (cs := #[.int .i64 ((rd_T28 t252 t259).f0), .int .i64 ((rd_T28 t252 t259).f1), .int .i64 0, .int .i64 0, .bool false]) ?_ 2 _ rfl; (with_reducible repeat (first | refine blk_drewN ?_ _ | refine blk_drew ?_ | refine blk_alloc ?_ _)); refine blk_put (cs := #[.int .i64 ((rd_T28 t252 t259).f0), .int .i64 0, .int .i64 0, .int .i64 0, .bool false]) ?_ 1 _ rfl; (with_reducible repeat (first | refine blk_drewN ?_ _ | refine blk_drew ?_ | refine blk_alloc ?_ _)); refine blk_put (cs := #[.int .i64 0, .int .i64 0, .int .i64 0, .int .i64 0, .bool false]) ?_ 0 _ rfl; (with_reducible repeat (first | refine blk_drewN ?_ _ | refine blk_drew ?_ | refine blk_alloc ?_ _)); refine blk_far ?_ NB262_261.out _; (with_reducible repeat (first | refine blk_drewN ?_ _ | refine blk_drew ?_ | refine blk_alloc ?_ _)); refine blk_far ?_ NB262_261.out _; (with_reducible repeat (first | refine blk_drewN ?_ _ | refine blk_drew ?_ | refine blk_alloc ?_ _)); refine blk_far ?_ NB262_261.out _; (with_reducible repeat (first | refine blk_drewN ?_ _ | refine blk_drew ?_ | refine blk_alloc ?_ _)); refine blk_far ?_ NB262_261.out _; (with_reducible repeat (first | refine blk_drewN ?_ _ | refine blk_drew ?_ | refine blk_alloc ?_ _)); refine blk_far ?_ NB262_261.out _; (with_reducible repeat (first | refine blk_drewN ?_ _ | refine blk_drew ?_ | refine blk_alloc ?_ _)); exact BK262.out⟩
        have n3_ : Aside0 (Below w.heap.size w ((((((((((w30.setCell ⟨gb261, 0, none⟩ (.int .i64 ((rd_T28 t252 t257).f0))).setCell ⟨gb261, 1, none⟩ (.int .i64 ((rd_T28 t252 t257).f1))).setCell ⟨gb261, 2, none⟩ (.int .i64 ((rd_T28 t252 t257).f2))).setCell ⟨gb261, 3, none⟩ (.int .i64 ((rd_T28 t252 t257).f3))).setCell ⟨gb261, 4, none⟩ (.bool ((rd_T28 t252 t257).f4))).setCell ⟨gb262, 0, none⟩ (.int .i64 ((rd_T28 t252 t259).f0))).setCell ⟨gb262, 1, none⟩ (.int .i64 ((rd_T28 t252 t259).f1))).setCell ⟨gb262, 2, none⟩ (.int .i64 ((rd_T28 t252 t259).f2))).setCell ⟨gb262, 3, none⟩ (.int .i64 ((rd_T28 t252 t259).f3))).setCell ⟨gb262, 4, none⟩ (.bool ((rd_T28 t252 t259).f4)))) := ⟨by repeat (first | (with_reducible first | exact HB.out | apply below_alloc | apply pw_below_drewN | apply below_drew1 | refine below_set ?_ GE261.out | refine below_set ?_ GE262.out) | exact HB.out)⟩
        (try clear HO255)
        (try clear BK261)
        (try clear BK262)
        (try clear HB)
        generalize ((((((((((w30.setCell ⟨gb261, 0, none⟩ (.int .i64 ((rd_T28 t252 t257).f0))).setCell ⟨gb261, 1, none⟩ (.int .i64 ((rd_T28 t252 t257).f1))).setCell ⟨gb261, 2, none⟩ (.int .i64 ((rd_T28 t252 t257).f2))).setCell ⟨gb261, 3, none⟩ (.int .i64 ((rd_T28 t252 t257).f3))).setCell ⟨gb261, 4, none⟩ (.bool ((rd_T28 t252 t257).f4))).setCell ⟨gb262, 0, none⟩ (.int .i64 ((rd_T28 t252 t259).f0))).setCell ⟨gb262, 1, none⟩ (.int .i64 ((rd_T28 t252 t259).f1))).setCell ⟨gb262, 2, none⟩ (.int .i64 ((rd_T28 t252 t259).f2))).setCell ⟨gb262, 3, none⟩ (.int .i64 ((rd_T28 t252 t259).f3))).setCell ⟨gb262, 4, none⟩ (.bool ((rd_T28 t252 t259).f4))) = w41 at n0_ n1_ n2_ n3_ ⊢
        have HO255 := n0_
        have BK261 := n1_
        have BK262 := n2_
        have HB := n3_
        clear n0_ n1_ n2_ n3_
        have n0_ := Aside0.mk (Kd.R_drew HO255.out)
        have n1_ := Aside0.mk (blk_drew BK261.out)
        have n2_ := Aside0.mk (blk_drew BK262.out)
        have n3_ := Aside0.mk (below_drew1 HB.out)
        clear HO255
        clear BK261
        clear BK262
        clear HB
        have HO255 := n0_
        have BK261 := n1_
        have BK262 := n2_
        have HB := n3_
        clear n0_ n1_ n2_ n3_
        refine start_ (n := 22) (S := fun w' => w'.cell? ⟨gb261, 0, none⟩ = some (.int .i64 ((rd_T28 t252 t257).f0)) ∧ w'.cell? ⟨gb261, 1, none⟩ = some (.int .i64 ((rd_T28 t252 t257).f1)) ∧ w'.cell? ⟨gb261, 2, none⟩ = some (.int .i64 ((rd_T28 t252 t257).f2)) ∧ w'.cell? ⟨gb261, 3, none⟩ = some (.int .i64 ((rd_T28 t252 t257).f3)) ∧ w'.cell? ⟨gb261, 4, none⟩ = some (.bool ((rd_T28 t252 t257).f4)) ∧ w'.cell? ⟨gb262, 0, none⟩ = some (.int .i64 ((rd_T28 t252 t259).f0)) ∧ w'.cell? ⟨gb262, 1, none⟩ = some (.int .i64 ((rd_T28 t252 t259).f1)) ∧ w'.cell? ⟨gb262, 2, none⟩ = some (.int .i64 ((rd_T28 t252 t259).f2)) ∧ w'.cell? ⟨gb262, 3, none⟩ = some (.int .i64 ((rd_T28 t252 t259).f3)) ∧ w'.cell? ⟨gb262, 4, none⟩ = some (.bool ((rd_T28 t252 t259).f4))) (ds := []) #[false, false, false, false, false, false, false, false, false, false, false, false, false, false, false, false, false, false, false, false, false, false] (by kernel_rfl) rfl rfl ⟨(blk_cell BK261.out 0).trans rfl, (blk_cell BK261.out 1).trans rfl, (blk_cell BK261.out 2).trans rfl, (blk_cell BK261.out 3).trans rfl, (blk_cell BK261.out 4).trans rfl, (blk_cell BK262.out 0).trans rfl, (blk_cell BK262.out 1).trans rfl, (blk_cell BK262.out 2).trans rfl, (blk_cell BK262.out 3).trans rfl, (blk_cell BK262.out 4).trans rfl⟩ (fun hHeld => ?_); refine with_tabW chirographkeep_TakesSwap.tab6 chirographkeep_TakesSwap.bits6 (fun HT_ HW_ => ?_)
        generalize w41.drew = w42 at HO255 BK261 BK262 HB hHeld ⊢
        refine one_ (i := 0) (N := some 38) #[true, false, false, false, false, false, false, false, false, false, false, false, false, false, false, false, false, false, false, false, false, false] rfl rfl (one_of HT_.out (by kernel_rfl)) (by decide) (fun K hK => ?_)
        refine goes_ Try.func10 (by kernel_rfl) rfl #[] (by rfl) rfl rfl (by (try simp only [List.map_toArray, List.map_cons, List.map_nil]); first | done | rfl | (simp only [List.length_drop, List.length_take]; rfl)) ?_
        with_reducible refine (chirographkeep_rightTells.calls k  true _ A17.out).mono ?_
        rintro e w43 ⟨rfl, hb⟩
        refine ⟨_, rfl, ?_⟩
        have n0_ := Aside0.mk (Kd.R_below (by (with_reducible repeat (first | apply Kd.R_alloc | apply Kd.R_drewN | apply Kd.R_drew)); exact HO255.out) hb)
        have n1_ := Aside0.mk (blk_below (g := gb261) (o := .cells #[.int .i64 ((rd_T28 t252 t257).f0), .int .i64 ((rd_T28 t252 t257).f1), .int .i64 ((rd_T28 t252 t257).f2), .int .i64 ((rd_T28 t252 t257).f3), .bool ((rd_T28 t252 t257).f4)] 28 (0, 0)) (by (with_reducible repeat (first | refine blk_drewN ?_ _ | refine blk_drew ?_ | refine blk_alloc ?_ _)); exact BK261.out) hb)
        have n2_ := Aside0.mk (blk_below (g := gb262) (o := .cells #[.int .i64 ((rd_T28 t252 t259).f0), .int .i64 ((rd_T28 t252 t259).f1), .int .i64 ((rd_T28 t252 t259).f2), .int .i64 ((rd_T28 t252 t259).f3), .bool ((rd_T28 t252 t259).f4)] 28 (0, 0)) (by (with_reducible repeat (first | refine blk_drewN ?_ _ | refine blk_drew ?_ | refine blk_alloc ?_ _)); exact BK262.out) hb)
        have n3_ := Aside0.mk (below_step (by repeat (first | (with_reducible first | exact HB.out | apply below_alloc | apply pw_below_drewN | apply below_drew1 | refine below_set ?_ GE261.out | refine below_set ?_ GE262.out) | exact HB.out)) hb)
        clear HO255
        clear BK261
        clear BK262
        clear HB
        have HO255 := n0_
        have BK261 := n1_
        have BK262 := n2_
        have HB := n3_
        clear n0_ n1_ n2_ n3_
        (try clear hb)
        (try clear hb2)
        (try clear hk)
        (try clear hi)
        refine hK.out _ _ ⟨(blk_cell BK261.out 0).trans rfl, (blk_cell BK261.out 1).trans rfl, (blk_cell BK261.out 2).trans rfl, (blk_cell BK261.out 3).trans rfl, (blk_cell BK261.out 4).trans rfl, (blk_cell BK262.out 0).trans rfl, (blk_cell BK262.out 1).trans rfl, (blk_cell BK262.out 2).trans rfl, (blk_cell BK262.out 3).trans rfl, (blk_cell BK262.out 4).trans rfl⟩ (fun hHeld => ?_)
        clear hK K
        refine norm_ (a' := ?_) ?_ ?_
        rotate_left
        ·show Act.put _ (some 38) _ = _
         simp only [Act.put, List.setIfInBounds_toArray, List.set_cons_zero, List.set_cons_succ, i64_w, i32_w]
         rfl
        refine pure_ (i := 1) (N := some 39) (v := ?_) (a' := ?_) #[true, true, false, false, false, false, false, false, false, false, false, false, false, false, false, false, false, false, false, false, false, false] rfl rfl (any_of HT_.out (by kernel_rfl)) (fun _ _ _ h => h) (Or.inl ⟨by rfl, ?_⟩) ?_ ?_
        rotate_left
        ·intro w'
         go_simp
         with_reducible rfl
        rotate_left
        ·simp only [Act.put, List.setIfInBounds_toArray, List.set_cons_zero, List.set_cons_succ, i64_w, i32_w]
         rfl
        refine pure_ (i := 2) (N := some 40) (v := ?_) (a' := ?_) #[true, true, true, false, false, false, false, false, false, false, false, false, false, false, false, false, false, false, false, false, false, false] rfl rfl (any_of HT_.out (by kernel_rfl)) (fun _ _ _ h => h) (Or.inl ⟨by rfl, ?_⟩) ?_ ?_
        rotate_left
        ·intro w'
         go_simp
         with_reducible rfl
        rotate_left
        ·simp only [Act.put, List.setIfInBounds_toArray, List.set_cons_zero, List.set_cons_succ, i64_w, i32_w]
         rfl
        refine pure_ (i := 3) (N := some 41) (v := ?_) (a' := ?_) #[true, true, true, true, false, false, false, false, false, false, false, false, false, false, false, false, false, false, false, false, false, false] rfl rfl (any_of HT_.out (by kernel_rfl)) (fun _ _ _ h => h) (Or.inl ⟨by rfl, ?_⟩) ?_ ?_
        rotate_left
        ·intro w'
         go_simp
         with_reducible rfl
        rotate_left
        ·simp only [Act.put, List.setIfInBounds_toArray, List.set_cons_zero, List.set_cons_succ, i64_w, i32_w]
         rfl
        refine pure_ (i := 4) (N := some 42) (v := ?_) (a' := ?_) #[true, true, true, true, true, false, false, false, false, false, false, false, false, false, false, false, false, false, false, false, false, false] rfl rfl (any_of HT_.out (by kernel_rfl)) (fun _ _ _ h => h) (Or.inl ⟨by rfl, ?_⟩) ?_ ?_
        rotate_left
        ·intro w'
         go_simp
         with_reducible rfl
        rotate_left
        ·simp only [Act.put, List.setIfInBounds_toArray, List.set_cons_zero, List.set_cons_succ, i64_w, i32_w]
         rfl
        refine pure_ (i := 5) (N := some 43) (v := ?_) (a' := ?_) #[true, true, true, true, true, true, false, false, false, false, false, false, false, false, false, false, false, false, false, false, false, false] rfl rfl (any_of HT_.out (by kernel_rfl)) (fun _ _ _ h => h) (Or.inl ⟨by rfl, ?_⟩) ?_ ?_
        rotate_left
        ·intro w'
         go_simp
         with_reducible rfl
        rotate_left
        ·simp only [Act.put, List.setIfInBounds_toArray, List.set_cons_zero, List.set_cons_succ, i64_w, i32_w]
         rfl
        refine pure_ (i := 6) (N := some 44) (v := ?_) (a' := ?_) #[true, true, true, true, true, true, true, false, false, false, false, false, false, false, false, false, false, false, false, false, false, false] rfl rfl (any_of HT_.out (by kernel_rfl)) (fun _ _ _ h => h) (Or.inl ⟨by rfl, ?_⟩) ?_ ?_
        rotate_left
        ·intro w'
         go_simp
         with_reducible rfl
        rotate_left
        ·simp only [Act.put, List.setIfInBounds_toArray, List.set_cons_zero, List.set_cons_succ, i64_w, i32_w]
         rfl
        refine pure_ (i := 7) (N := some 45) (v := ?_) (a' := ?_) #[true, true, true, true, true, true, true, true, false, false, false, false, false, false, false, false, false, false, false, false, false, false] rfl rfl (any_of HT_.out (by kernel_rfl)) (fun _ _ _ h => h) (Or.inl ⟨by rfl, ?_⟩) ?_ ?_
        rotate_left
        ·intro w'
         go_simp
         with_reducible rfl
        rotate_left
        ·simp only [Act.put, List.setIfInBounds_toArray, List.set_cons_zero, List.set_cons_succ, i64_w, i32_w]
         rfl
        refine pure_ (i := 12) (N := some 50) (v := ?_) (a' := ?_) #[true, true, true, true, true, true, true, true, false, false, false, false, true, false, false, false, false, false, false, false, false, false] rfl rfl (any_of HT_.out (by kernel_rfl)) (fun _ _ _ h => h) (Or.inl ⟨by rfl, ?_⟩) ?_ ?_
        rotate_left
        ·intro w'
         go_simp
         with_reducible rfl
        rotate_left
        ·simp only [Act.put, List.setIfInBounds_toArray, List.set_cons_zero, List.set_cons_succ, i64_w, i32_w]
         rfl
        refine pure_ (i := 13) (N := some 51) (v := ?_) (a' := ?_) #[true, true, true, true, true, true, true, true, false, false, false, false, true, true, false, false, false, false, false, false, false, false] rfl rfl (any_of HT_.out (by kernel_rfl)) (fun _ _ _ h => h) (Or.inl ⟨by rfl, ?_⟩) ?_ ?_
        rotate_left
        ·intro w'
         go_simp
         with_reducible rfl
        rotate_left
        ·simp only [Act.put, List.setIfInBounds_toArray, List.set_cons_zero, List.set_cons_succ, i64_w, i32_w]
         rfl
        refine pure_ (i := 14) (N := some 52) (v := ?_) (a' := ?_) #[true, true, true, true, true, true, true, true, false, false, false, false, true, true, true, false, false, false, false, false, false, false] rfl rfl (any_of HT_.out (by kernel_rfl)) (fun _ _ _ h => h) (Or.inl ⟨by rfl, ?_⟩) ?_ ?_
        rotate_left
        ·intro w'
         go_simp
         with_reducible rfl
        rotate_left
        ·simp only [Act.put, List.setIfInBounds_toArray, List.set_cons_zero, List.set_cons_succ, i64_w, i32_w]
         rfl
        refine take_ (i := 8) (N := some 46) (v := ?_) (a' := ?_) #[true, true, true, true, true, true, true, true, true, false, false, false, true, true, true, false, false, false, false, false, false, false] rfl rfl (take_ofW HT_.out HW_.out (by kernel_rfl)) (fun _ _ _ h => h) (Or.inl ⟨by rfl, ?_⟩) hHeld ?_ ?_
        rotate_left
        ·rintro w' ⟨s0, s1, s2, s3, s4, s5, s6, s7, s8, s9⟩
         go_simp
         with_reducible rfl
        rotate_left
        ·simp only [Act.put, List.setIfInBounds_toArray, List.set_cons_zero, List.set_cons_succ, i64_w, i32_w]
         rfl
        refine take_ (i := 10) (N := some 48) (v := ?_) (a' := ?_) #[true, true, true, true, true, true, true, true, true, false, true, false, true, true, true, false, false, false, false, false, false, false] rfl rfl (take_ofW HT_.out HW_.out (by kernel_rfl)) (fun _ _ _ h => h) (Or.inl ⟨by rfl, ?_⟩) hHeld ?_ ?_
        rotate_left
        ·rintro w' ⟨s0, s1, s2, s3, s4, s5, s6, s7, s8, s9⟩
         go_simp
         with_reducible rfl
        rotate_left
        ·simp only [Act.put, List.setIfInBounds_toArray, List.set_cons_zero, List.set_cons_succ, i64_w, i32_w]
         rfl
        refine take_ (i := 15) (N := some 53) (v := ?_) (a' := ?_) #[true, true, true, true, true, true, true, true, true, false, true, false, true, true, true, true, false, false, false, false, false, false] rfl rfl (take_ofW HT_.out HW_.out (by kernel_rfl)) (fun _ _ _ h => h) (Or.inl ⟨by rfl, ?_⟩) hHeld ?_ ?_
        rotate_left
        ·rintro w' ⟨s0, s1, s2, s3, s4, s5, s6, s7, s8, s9⟩
         go_simp
         with_reducible rfl
        rotate_left
        ·simp only [Act.put, List.setIfInBounds_toArray, List.set_cons_zero, List.set_cons_succ, i64_w, i32_w]
         rfl
        refine take_ (i := 17) (N := some 55) (v := ?_) (a' := ?_) #[true, true, true, true, true, true, true, true, true, false, true, false, true, true, true, true, false, true, false, false, false, false] rfl rfl (take_ofW HT_.out HW_.out (by kernel_rfl)) (fun _ _ _ h => h) (Or.inl ⟨by rfl, ?_⟩) hHeld ?_ ?_
        rotate_left
        ·rintro w' ⟨s0, s1, s2, s3, s4, s5, s6, s7, s8, s9⟩
         go_simp
         with_reducible rfl
        rotate_left
        ·simp only [Act.put, List.setIfInBounds_toArray, List.set_cons_zero, List.set_cons_succ, i64_w, i32_w]
         rfl
        refine one_ (i := 9) (N := some 47) #[true, true, true, true, true, true, true, true, true, true, true, false, true, true, true, true, false, true, false, false, false, false] rfl rfl (one_of HT_.out (by kernel_rfl)) (by decide) (fun K hK => ?_)
        refine goesV_ Try.func19 (by kernel_rfl) rfl #[.slice (some ad258) t252.length co26, .agg #[.int .i64 ((rd_T28 t252 t257).f0), .int .i64 ((rd_T28 t252 t257).f1), .int .i64 ((rd_T28 t252 t257).f2), .int .i64 ((rd_T28 t252 t257).f3), .bool ((rd_T28 t252 t257).f4)]] (by rfl) rfl rfl (by rfl) (by (try simp only [List.map_toArray, List.map_cons, List.map_nil]); first | done | rfl | (simp only [List.length_drop, List.length_take]; rfl)) ?_
        with_reducible refine (chirographkeep_TakesSwap_1.calls k (fun k_ => some k_ = (.slice (some ad258) t252.length co26 : Value).ownBlock) _ _ t252 ((rd_T28 t252 t257).f0) ((rd_T28 t252 t257).f1) ((rd_T28 t252 t257).f2) ((rd_T28 t252 t257).f3) ((rd_T28 t252 t257).f4) t264 _ ?side1 A20.out).mono ?_
        (case side1 => exact Kd.R_V (Kd.R_tight rfl (HO255.out)))
        rintro e w44 ⟨v265, rfl, ho0, hb⟩
        refine ⟨_, rfl, ?_⟩
        have n0_ := Aside0.mk (Kd.R_below (by (with_reducible repeat (first | apply Kd.R_alloc | apply Kd.R_drewN | apply Kd.R_drew)); exact HO255.out) hb)
        have n1_ := Aside0.mk (Kd.V_lower (Kd.V_mono (ok' := fun k_ => k_ ≠ gb261 ∧ k_ ≠ gb262) ho0 (fun k_ hk_ => ⟨Or.elim hk_ (fun hs_ => ((HO255.out).1 k_ hs_.symm).1) (fun hn_ => (Kd.freshB (g := gb261) (o := .cells #[.int .i64 ((rd_T28 t252 t257).f0), .int .i64 ((rd_T28 t252 t257).f1), .int .i64 ((rd_T28 t252 t257).f2), .int .i64 ((rd_T28 t252 t257).f3), .bool ((rd_T28 t252 t257).f4)] 28 (0, 0)) (by (with_reducible repeat (first | refine blk_drewN ?_ _ | refine blk_drew ?_ | refine blk_alloc ?_ _)); exact BK261.out) k_ hn_)), Or.elim hk_ (fun hs_ => ((HO255.out).1 k_ hs_.symm).2) (fun hn_ => (Kd.freshB (g := gb262) (o := .cells #[.int .i64 ((rd_T28 t252 t259).f0), .int .i64 ((rd_T28 t252 t259).f1), .int .i64 ((rd_T28 t252 t259).f2), .int .i64 ((rd_T28 t252 t259).f3), .bool ((rd_T28 t252 t259).f4)] 28 (0, 0)) (by (with_reducible repeat (first | refine blk_drewN ?_ _ | refine blk_drew ?_ | refine blk_alloc ?_ _)); exact BK262.out) k_ hn_))⟩)) (below_size (by repeat (first | (with_reducible first | exact HB.out | apply below_alloc | apply pw_below_drewN | apply below_drew1 | refine below_set ?_ GE261.out | refine below_set ?_ GE262.out) | exact HB.out))))
        have n2_ := Aside0.mk (blk_below (g := gb261) (o := .cells #[.int .i64 ((rd_T28 t252 t257).f0), .int .i64 ((rd_T28 t252 t257).f1), .int .i64 ((rd_T28 t252 t257).f2), .int .i64 ((rd_T28 t252 t257).f3), .bool ((rd_T28 t252 t257).f4)] 28 (0, 0)) (by (with_reducible repeat (first | refine blk_drewN ?_ _ | refine blk_drew ?_ | refine blk_alloc ?_ _)); exact BK261.out) hb)
        have n3_ := Aside0.mk (blk_below (g := gb262) (o := .cells #[.int .i64 ((rd_T28 t252 t259).f0), .int .i64 ((rd_T28 t252 t259).f1), .int .i64 ((rd_T28 t252 t259).f2), .int .i64 ((rd_T28 t252 t259).f3), .bool ((rd_T28 t252 t259).f4)] 28 (0, 0)) (by (with_reducible repeat (first | refine blk_drewN ?_ _ | refine blk_drew ?_ | refine blk_alloc ?_ _)); exact BK262.out) hb)
        have n4_ := Aside0.mk (below_step (by repeat (first | (with_reducible first | exact HB.out | apply below_alloc | apply pw_below_drewN | apply below_drew1 | refine below_set ?_ GE261.out | refine below_set ?_ GE262.out) | exact HB.out)) hb)
        clear HO255
        clear BK261
        clear BK262
        clear HB
        have HO255 := n0_
        have HO266 := n1_
        have BK261 := n2_
        have BK262 := n3_
        have HB := n4_
        clear n0_ n1_ n2_ n3_ n4_
        (try clear hb)
        (try clear hb2)
        (try clear hk)
        (try clear hi)
        (try clear ho0)
        obtain ⟨Ao45, co45, eo45⟩ := Kd.V_slice HO266.out
        (first | subst eo45 | (injection eo45 with f1_ f2_ f3_; have f4_ := f1_.symm; have f5_ := f3_.symm; clear f1_ f2_ f3_; subst f4_; subst f5_))
        refine hK.out _ _ ⟨(blk_cell BK261.out 0).trans rfl, (blk_cell BK261.out 1).trans rfl, (blk_cell BK261.out 2).trans rfl, (blk_cell BK261.out 3).trans rfl, (blk_cell BK261.out 4).trans rfl, (blk_cell BK262.out 0).trans rfl, (blk_cell BK262.out 1).trans rfl, (blk_cell BK262.out 2).trans rfl, (blk_cell BK262.out 3).trans rfl, (blk_cell BK262.out 4).trans rfl⟩ (fun hHeld => ?_)
        clear hK K
        refine norm_ (a' := ?_) ?_ ?_
        rotate_left
        ·show Act.put _ (some 47) _ = _
         simp only [Act.put, List.setIfInBounds_toArray, List.set_cons_zero, List.set_cons_succ, i64_w, i32_w]
         rfl
        refine one_ (i := 11) (N := some 49) #[true, true, true, true, true, true, true, true, true, true, true, true, true, true, true, true, false, true, false, false, false, false] rfl rfl (one_of HT_.out (by kernel_rfl)) (by decide) (fun K hK => ?_)
        refine goesV_ Try.func19 (by kernel_rfl) rfl #[.slice Ao45 t264.length co45, .agg #[.int .i64 ((rd_T28 t252 t259).f0), .int .i64 ((rd_T28 t252 t259).f1), .int .i64 ((rd_T28 t252 t259).f2), .int .i64 ((rd_T28 t252 t259).f3), .bool ((rd_T28 t252 t259).f4)]] (by rfl) rfl rfl (by rfl) (by (try simp only [List.map_toArray, List.map_cons, List.map_nil]); first | done | rfl | (simp only [List.length_drop, List.length_take]; rfl)) ?_
        with_reducible refine (chirographkeep_TakesSwap_1.calls k (fun k_ => (k_ ≠ gb261 ∧ k_ ≠ gb262)) _ _ t264 ((rd_T28 t252 t259).f0) ((rd_T28 t252 t259).f1) ((rd_T28 t252 t259).f2) ((rd_T28 t252 t259).f3) ((rd_T28 t252 t259).f4) t267 _ ?side1 A21.out).mono ?_
        (case side1 => exact HO266.out)
        rintro e w46 ⟨v268, rfl, ho0, hb⟩
        refine ⟨_, rfl, ?_⟩
        have n0_ := Aside0.mk (Kd.R_below (by (with_reducible repeat (first | apply Kd.R_alloc | apply Kd.R_drewN | apply Kd.R_drew)); exact HO255.out) hb)
        have n1_ := Aside0.mk (Kd.V_below (by (with_reducible repeat (first | apply Kd.V_alloc | apply Kd.V_drewN | apply Kd.V_drew)); exact HO266.out) hb)
        have n2_ := Aside0.mk (Kd.V_lower (Kd.V_mono (ok' := fun k_ => k_ ≠ gb261 ∧ k_ ≠ gb262) ho0 (fun k_ hk_ => ⟨Or.elim hk_ (fun hs_ => hs_.1) (fun hn_ => (Kd.freshB (g := gb261) (o := .cells #[.int .i64 ((rd_T28 t252 t257).f0), .int .i64 ((rd_T28 t252 t257).f1), .int .i64 ((rd_T28 t252 t257).f2), .int .i64 ((rd_T28 t252 t257).f3), .bool ((rd_T28 t252 t257).f4)] 28 (0, 0)) (by (with_reducible repeat (first | refine blk_drewN ?_ _ | refine blk_drew ?_ | refine blk_alloc ?_ _)); exact BK261.out) k_ hn_)), Or.elim hk_ (fun hs_ => hs_.2) (fun hn_ => (Kd.freshB (g := gb262) (o := .cells #[.int .i64 ((rd_T28 t252 t259).f0), .int .i64 ((rd_T28 t252 t259).f1), .int .i64 ((rd_T28 t252 t259).f2), .int .i64 ((rd_T28 t252 t259).f3), .bool ((rd_T28 t252 t259).f4)] 28 (0, 0)) (by (with_reducible repeat (first | refine blk_drewN ?_ _ | refine blk_drew ?_ | refine blk_alloc ?_ _)); exact BK262.out) k_ hn_))⟩)) (below_size (by repeat (first | (with_reducible first | exact HB.out | apply below_alloc | apply pw_below_drewN | apply below_drew1 | refine below_set ?_ GE261.out | refine below_set ?_ GE262.out) | exact HB.out))))
        have n3_ := Aside0.mk (blk_below (g := gb261) (o := .cells #[.int .i64 ((rd_T28 t252 t257).f0), .int .i64 ((rd_T28 t252 t257).f1), .int .i64 ((rd_T28 t252 t257).f2), .int .i64 ((rd_T28 t252 t257).f3), .bool ((rd_T28 t252 t257).f4)] 28 (0, 0)) (by (with_reducible repeat (first | refine blk_drewN ?_ _ | refine blk_drew ?_ | refine blk_alloc ?_ _)); exact BK261.out) hb)
        have n4_ := Aside0.mk (blk_below (g := gb262) (o := .cells #[.int .i64 ((rd_T28 t252 t259).f0), .int .i64 ((rd_T28 t252 t259).f1), .int .i64 ((rd_T28 t252 t259).f2), .int .i64 ((rd_T28 t252 t259).f3), .bool ((rd_T28 t252 t259).f4)] 28 (0, 0)) (by (with_reducible repeat (first | refine blk_drewN ?_ _ | refine blk_drew ?_ | refine blk_alloc ?_ _)); exact BK262.out) hb)
        have n5_ := Aside0.mk (below_step (by repeat (first | (with_reducible first | exact HB.out | apply below_alloc | apply pw_below_drewN | apply below_drew1 | refine below_set ?_ GE261.out | refine below_set ?_ GE262.out) | exact HB.out)) hb)
        clear HO255
        clear HO266
        clear BK261
        clear BK262
        clear HB
        have HO255 := n0_
        have HO266 := n1_
        have HO269 := n2_
        have BK261 := n3_
        have BK262 := n4_
        have HB := n5_
        clear n0_ n1_ n2_ n3_ n4_ n5_
        (try clear hb)
        (try clear hb2)
        (try clear hk)
        (try clear hi)
        (try clear ho0)
        refine hK.out _ _ ⟨(blk_cell BK261.out 0).trans rfl, (blk_cell BK261.out 1).trans rfl, (blk_cell BK261.out 2).trans rfl, (blk_cell BK261.out 3).trans rfl, (blk_cell BK261.out 4).trans rfl, (blk_cell BK262.out 0).trans rfl, (blk_cell BK262.out 1).trans rfl, (blk_cell BK262.out 2).trans rfl, (blk_cell BK262.out 3).trans rfl, (blk_cell BK262.out 4).trans rfl⟩ (fun hHeld => ?_)
        clear hK K
        refine norm_ (a' := ?_) ?_ ?_
        rotate_left
        ·show Act.put _ (some 49) _ = _
         simp only [Act.put, List.setIfInBounds_toArray, List.set_cons_zero, List.set_cons_succ, i64_w, i32_w]
         rfl
        refine one_ (i := 16) (N := some 54) #[true, true, true, true, true, true, true, true, true, true, true, true, true, true, true, true, true, true, false, false, false, false] rfl rfl (one_of HT_.out (by kernel_rfl)) (by decide) (fun K hK => ?_)
        refine goesV_ Try.func19 (by kernel_rfl) rfl #[.slice (some ad258) t252.length co26, .agg #[.int .i64 ((rd_T28 t252 t259).f0), .int .i64 ((rd_T28 t252 t259).f1), .int .i64 ((rd_T28 t252 t259).f2), .int .i64 ((rd_T28 t252 t259).f3), .bool ((rd_T28 t252 t259).f4)]] (by rfl) rfl rfl (by rfl) (by (try simp only [List.map_toArray, List.map_cons, List.map_nil]); first | done | rfl | (simp only [List.length_drop, List.length_take]; rfl)) ?_
        with_reducible refine (chirographkeep_TakesSwap_1.calls k (fun k_ => some k_ = (.slice (some ad258) t252.length co26 : Value).ownBlock) _ _ t252 ((rd_T28 t252 t259).f0) ((rd_T28 t252 t259).f1) ((rd_T28 t252 t259).f2) ((rd_T28 t252 t259).f3) ((rd_T28 t252 t259).f4) t270 _ ?side1 A22.out).mono ?_
        (case side1 => exact Kd.R_V (Kd.R_tight rfl (HO255.out)))
        rintro e w47 ⟨v271, rfl, ho0, hb⟩
        refine ⟨_, rfl, ?_⟩
        have n0_ := Aside0.mk (Kd.R_below (by (with_reducible repeat (first | apply Kd.R_alloc | apply Kd.R_drewN | apply Kd.R_drew)); exact HO255.out) hb)
        have n1_ := Aside0.mk (Kd.V_below (by (with_reducible repeat (first | apply Kd.V_alloc | apply Kd.V_drewN | apply Kd.V_drew)); exact HO266.out) hb)
        have n2_ := Aside0.mk (Kd.V_below (by (with_reducible repeat (first | apply Kd.V_alloc | apply Kd.V_drewN | apply Kd.V_drew)); exact HO269.out) hb)
        have n3_ := Aside0.mk (Kd.V_lower (Kd.V_mono (ok' := fun k_ => k_ ≠ gb261 ∧ k_ ≠ gb262) ho0 (fun k_ hk_ => ⟨Or.elim hk_ (fun hs_ => ((HO255.out).1 k_ hs_.symm).1) (fun hn_ => (Kd.freshB (g := gb261) (o := .cells #[.int .i64 ((rd_T28 t252 t257).f0), .int .i64 ((rd_T28 t252 t257).f1), .int .i64 ((rd_T28 t252 t257).f2), .int .i64 ((rd_T28 t252 t257).f3), .bool ((rd_T28 t252 t257).f4)] 28 (0, 0)) (by (with_reducible repeat (first | refine blk_drewN ?_ _ | refine blk_drew ?_ | refine blk_alloc ?_ _)); exact BK261.out) k_ hn_)), Or.elim hk_ (fun hs_ => ((HO255.out).1 k_ hs_.symm).2) (fun hn_ => (Kd.freshB (g := gb262) (o := .cells #[.int .i64 ((rd_T28 t252 t259).f0), .int .i64 ((rd_T28 t252 t259).f1), .int .i64 ((rd_T28 t252 t259).f2), .int .i64 ((rd_T28 t252 t259).f3), .bool ((rd_T28 t252 t259).f4)] 28 (0, 0)) (by (with_reducible repeat (first | refine blk_drewN ?_ _ | refine blk_drew ?_ | refine blk_alloc ?_ _)); exact BK262.out) k_ hn_))⟩)) (below_size (by repeat (first | (with_reducible first | exact HB.out | apply below_alloc | apply pw_below_drewN | apply below_drew1 | refine below_set ?_ GE261.out | refine below_set ?_ GE262.out) | exact HB.out))))
        have n4_ := Aside0.mk (blk_below (g := gb261) (o := .cells #[.int .i64 ((rd_T28 t252 t257).f0), .int .i64 ((rd_T28 t252 t257).f1), .int .i64 ((rd_T28 t252 t257).f2), .int .i64 ((rd_T28 t252 t257).f3), .bool ((rd_T28 t252 t257).f4)] 28 (0, 0)) (by (with_reducible repeat (first | refine blk_drewN ?_ _ | refine blk_drew ?_ | refine blk_alloc ?_ _)); exact BK261.out) hb)
        have n5_ := Aside0.mk (blk_below (g := gb262) (o := .cells #[.int .i64 ((rd_T28 t252 t259).f0), .int .i64 ((rd_T28 t252 t259).f1), .int .i64 ((rd_T28 t252 t259).f2), .int .i64 ((rd_T28 t252 t259).f3), .bool ((rd_T28 t252 t259).f4)] 28 (0, 0)) (by (with_reducible repeat (first | refine blk_drewN ?_ _ | refine blk_drew ?_ | refine blk_alloc ?_ _)); exact BK262.out) hb)
        have n6_ := Aside0.mk (below_step (by repeat (first | (with_reducible first | exact HB.out | apply below_alloc | apply pw_below_drewN | apply below_drew1 | refine below_set ?_ GE261.out | refine below_set ?_ GE262.out) | exact HB.out)) hb)
        clear HO255
        clear HO266
        clear HO269
        clear BK261
        clear BK262
        clear HB
        have HO255 := n0_
        have HO266 := n1_
        have HO269 := n2_
        have HO272 := n3_
        have BK261 := n4_
        have BK262 := n5_
        have HB := n6_
        clear n0_ n1_ n2_ n3_ n4_ n5_ n6_
        (try clear hb)
        (try clear hb2)
        (try clear hk)
        (try clear hi)
        (try clear ho0)
        obtain ⟨Ao48, co48, eo48⟩ := Kd.V_slice HO272.out
        (first | subst eo48 | (injection eo48 with f1_ f2_ f3_; have f4_ := f1_.symm; have f5_ := f3_.symm; clear f1_ f2_ f3_; subst f4_; subst f5_))
        refine hK.out _ _ ⟨(blk_cell BK261.out 0).trans rfl, (blk_cell BK261.out 1).trans rfl, (blk_cell BK261.out 2).trans rfl, (blk_cell BK261.out 3).trans rfl, (blk_cell BK261.out 4).trans rfl, (blk_cell BK262.out 0).trans rfl, (blk_cell BK262.out 1).trans rfl, (blk_cell BK262.out 2).trans rfl, (blk_cell BK262.out 3).trans rfl, (blk_cell BK262.out 4).trans rfl⟩ (fun hHeld => ?_)
        clear hK K
        refine norm_ (a' := ?_) ?_ ?_
        rotate_left
        ·show Act.put _ (some 54) _ = _
         simp only [Act.put, List.setIfInBounds_toArray, List.set_cons_zero, List.set_cons_succ, i64_w, i32_w]
         rfl
        refine one_ (i := 18) (N := some 56) #[true, true, true, true, true, true, true, true, true, true, true, true, true, true, true, true, true, true, true, false, false, false] rfl rfl (one_of HT_.out (by kernel_rfl)) (by decide) (fun K hK => ?_)
        refine goesV_ Try.func19 (by kernel_rfl) rfl #[.slice Ao48 t270.length co48, .agg #[.int .i64 ((rd_T28 t252 t257).f0), .int .i64 ((rd_T28 t252 t257).f1), .int .i64 ((rd_T28 t252 t257).f2), .int .i64 ((rd_T28 t252 t257).f3), .bool ((rd_T28 t252 t257).f4)]] (by rfl) rfl rfl (by rfl) (by (try simp only [List.map_toArray, List.map_cons, List.map_nil]); first | done | rfl | (simp only [List.length_drop, List.length_take]; rfl)) ?_
        with_reducible refine (chirographkeep_TakesSwap_1.calls k (fun k_ => (k_ ≠ gb261 ∧ k_ ≠ gb262)) _ _ t270 ((rd_T28 t252 t257).f0) ((rd_T28 t252 t257).f1) ((rd_T28 t252 t257).f2) ((rd_T28 t252 t257).f3) ((rd_T28 t252 t257).f4) t273 _ ?side1 A23.out).mono ?_
        (case side1 => exact HO272.out)
        rintro e w49 ⟨v274, rfl, ho0, hb⟩
        refine ⟨_, rfl, ?_⟩
        have n0_ := Aside0.mk (Kd.R_below (by (with_reducible repeat (first | apply Kd.R_alloc | apply Kd.R_drewN | apply Kd.R_drew)); exact HO255.out) hb)
        have n1_ := Aside0.mk (Kd.V_below (by (with_reducible repeat (first | apply Kd.V_alloc | apply Kd.V_drewN | apply Kd.V_drew)); exact HO266.out) hb)
        have n2_ := Aside0.mk (Kd.V_below (by (with_reducible repeat (first | apply Kd.V_alloc | apply Kd.V_drewN | apply Kd.V_drew)); exact HO269.out) hb)
        have n3_ := Aside0.mk (Kd.V_below (by (with_reducible repeat (first | apply Kd.V_alloc | apply Kd.V_drewN | apply Kd.V_drew)); exact HO272.out) hb)
        have n4_ := Aside0.mk (Kd.V_lower (Kd.V_mono (ok' := fun k_ => k_ ≠ gb261 ∧ k_ ≠ gb262) ho0 (fun k_ hk_ => ⟨Or.elim hk_ (fun hs_ => hs_.1) (fun hn_ => (Kd.freshB (g := gb261) (o := .cells #[.int .i64 ((rd_T28 t252 t257).f0), .int .i64 ((rd_T28 t252 t257).f1), .int .i64 ((rd_T28 t252 t257).f2), .int .i64 ((rd_T28 t252 t257).f3), .bool ((rd_T28 t252 t257).f4)] 28 (0, 0)) (by (with_reducible repeat (first | refine blk_drewN ?_ _ | refine blk_drew ?_ | refine blk_alloc ?_ _)); exact BK261.out) k_ hn_)), Or.elim hk_ (fun hs_ => hs_.2) (fun hn_ => (Kd.freshB (g := gb262) (o := .cells #[.int .i64 ((rd_T28 t252 t259).f0), .int .i64 ((rd_T28 t252 t259).f1), .int .i64 ((rd_T28 t252 t259).f2), .int .i64 ((rd_T28 t252 t259).f3), .bool ((rd_T28 t252 t259).f4)] 28 (0, 0)) (by (with_reducible repeat (first | refine blk_drewN ?_ _ | refine blk_drew ?_ | refine blk_alloc ?_ _)); exact BK262.out) k_ hn_))⟩)) (below_size (by repeat (first | (with_reducible first | exact HB.out | apply below_alloc | apply pw_below_drewN | apply below_drew1 | refine below_set ?_ GE261.out | refine below_set ?_ GE262.out) | exact HB.out))))
        have n5_ := Aside0.mk (blk_below (g := gb261) (o := .cells #[.int .i64 ((rd_T28 t252 t257).f0), .int .i64 ((rd_T28 t252 t257).f1), .int .i64 ((rd_T28 t252 t257).f2), .int .i64 ((rd_T28 t252 t257).f3), .bool ((rd_T28 t252 t257).f4)] 28 (0, 0)) (by (with_reducible repeat (first | refine blk_drewN ?_ _ | refine blk_drew ?_ | refine blk_alloc ?_ _)); exact BK261.out) hb)
        have n6_ := Aside0.mk (blk_below (g := gb262) (o := .cells #[.int .i64 ((rd_T28 t252 t259).f0), .int .i64 ((rd_T28 t252 t259).f1), .int .i64 ((rd_T28 t252 t259).f2), .int .i64 ((rd_T28 t252 t259).f3), .bool ((rd_T28 t252 t259).f4)] 28 (0, 0)) (by (with_reducible repeat (first | refine blk_drewN ?_ _ | refine blk_drew ?_ | refine blk_alloc ?_ _)); exact BK262.out) hb)
        have n7_ := Aside0.mk (below_step (by repeat (first | (with_reducible first | exact HB.out | apply below_alloc | apply pw_below_drewN | apply below_drew1 | refine below_set ?_ GE261.out | refine below_set ?_ GE262.out) | exact HB.out)) hb)
        clear HO255
        clear HO266
        clear HO269
        clear HO272
        clear BK261
        clear BK262
        clear HB
        have HO255 := n0_
        have HO266 := n1_
        have HO269 := n2_
        have HO272 := n3_
        have HO275 := n4_
        have BK261 := n5_
        have BK262 := n6_
        have HB := n7_
        clear n0_ n1_ n2_ n3_ n4_ n5_ n6_ n7_
        (try clear hb)
        (try clear hb2)
        (try clear hk)
        (try clear hi)
        (try clear ho0)
        obtain ⟨Ao50, co50, eo50⟩ := Kd.V_slice HO269.out
        (first | subst eo50 | (injection eo50 with f1_ f2_ f3_; have f4_ := f1_.symm; have f5_ := f3_.symm; clear f1_ f2_ f3_; subst f4_; subst f5_))
        obtain ⟨Ao51, co51, eo51⟩ := Kd.V_slice HO275.out
        (first | subst eo51 | (injection eo51 with f1_ f2_ f3_; have f4_ := f1_.symm; have f5_ := f3_.symm; clear f1_ f2_ f3_; subst f4_; subst f5_))
        refine hK.out _ _ ⟨(blk_cell BK261.out 0).trans rfl, (blk_cell BK261.out 1).trans rfl, (blk_cell BK261.out 2).trans rfl, (blk_cell BK261.out 3).trans rfl, (blk_cell BK261.out 4).trans rfl, (blk_cell BK262.out 0).trans rfl, (blk_cell BK262.out 1).trans rfl, (blk_cell BK262.out 2).trans rfl, (blk_cell BK262.out 3).trans rfl, (blk_cell BK262.out 4).trans rfl⟩ (fun hHeld => ?_)
        clear hK K
        refine norm_ (a' := ?_) ?_ ?_
        rotate_left
        ·show Act.put _ (some 56) _ = _
         simp only [Act.put, List.setIfInBounds_toArray, List.set_cons_zero, List.set_cons_succ, i64_w, i32_w]
         rfl
        refine one_ (i := 19) (N := some 57) #[true, true, true, true, true, true, true, true, true, true, true, true, true, true, true, true, true, true, true, true, false, false] rfl rfl (one_of HT_.out (by kernel_rfl)) (by decide) (fun K hK => ?_)
        refine goes_ Try.func18 (by kernel_rfl) rfl #[.slice Ao50 t267.length co50, .slice Ao51 t273.length co51] (by rfl) rfl rfl (by (try simp only [List.map_toArray, List.map_cons, List.map_nil]); first | done | rfl | (simp only [List.length_drop, List.length_take]; rfl)) ?_
        with_reducible refine (chirographkeep_sameGrants.calls k _ _ t267 _ _ t273 t276 _ ?side1 ?side2 ?side3 ?side4 A24.out).mono ?_
        (case side1 => repeat (first | exact (Kd.V_reads' HO269.out).2.2 | (with_reducible refine Kd.C_alloc ?_ _) | (with_reducible refine Kd.C_drewN ?_ _) | (with_reducible refine Kd.C_drew ?_)))
        (case side2 => exact (Kd.V_reads' HO269.out).2.1)
        (case side3 => repeat (first | exact (Kd.V_reads' HO275.out).2.2 | (with_reducible refine Kd.C_alloc ?_ _) | (with_reducible refine Kd.C_drewN ?_ _) | (with_reducible refine Kd.C_drew ?_)))
        (case side4 => exact (Kd.V_reads' HO275.out).2.1)
        rintro e w' ⟨rfl, ⟨nd, rfl⟩⟩
        refine ⟨_, rfl, ?_⟩
        refine hK.out _ _ ⟨(blk_cell BK261.out 0).trans rfl, (blk_cell BK261.out 1).trans rfl, (blk_cell BK261.out 2).trans rfl, (blk_cell BK261.out 3).trans rfl, (blk_cell BK261.out 4).trans rfl, (blk_cell BK262.out 0).trans rfl, (blk_cell BK262.out 1).trans rfl, (blk_cell BK262.out 2).trans rfl, (blk_cell BK262.out 3).trans rfl, (blk_cell BK262.out 4).trans rfl⟩ (fun hHeld => ?_)
        clear hK K
        refine norm_ (a' := ?_) ?_ ?_
        rotate_left
        ·show Act.put _ (some 57) _ = _
         simp only [Act.put, List.setIfInBounds_toArray, List.set_cons_zero, List.set_cons_succ, i64_w, i32_w]
         rfl
        refine pure_ (i := 20) (N := some 58) (v := ?_) (a' := ?_) #[true, true, true, true, true, true, true, true, true, true, true, true, true, true, true, true, true, true, true, true, true, false] rfl rfl (any_of HT_.out (by kernel_rfl)) (fun _ _ _ h => h) (Or.inl ⟨by rfl, ?_⟩) ?_ ?_
        rotate_left
        ·intro w'
         go_simp
         with_reducible rfl
        rotate_left
        ·simp only [Act.put, List.setIfInBounds_toArray, List.set_cons_zero, List.set_cons_succ, i64_w, i32_w]
         rfl
        refine pure_ (i := 21) (N := some 6) (v := ?_) (a' := ?_) #[true, true, true, true, true, true, true, true, true, true, true, true, true, true, true, true, true, true, true, true, true, true] rfl rfl (any_of HT_.out (by kernel_rfl)) (fun _ _ _ h => h) (Or.inl ⟨by rfl, ?_⟩) ?_ ?_
        rotate_left
        ·intro w'
         go_simp
         with_reducible rfl
        rotate_left
        ·simp only [Act.put, List.setIfInBounds_toArray, List.set_cons_zero, List.set_cons_succ, i64_w, i32_w]
         rfl
        refine done_ (done_of HT_.out (by kernel_rfl)) ?_
        try go_wp2
        go_ret
        exact ⟨by first | rfl | (simp [errW_none, errW_some] <;> rfl) | (simp [*, errW_none, errW_some] <;> rfl), by repeat (first | (with_reducible first | exact HB.out | apply below_alloc | apply pw_below_drewN | apply below_drew1 | refine below_set ?_ GE261.out | refine below_set ?_ GE262.out) | exact HB.out)⟩
       ·replace c19 := Bool.eq_false_iff.mpr c19
        subst c19
        have H1 : (some false) = some r := by rw [if_neg (show ¬ (false = true) by decide)] at H; exact H
        clear H
        have H := H1
        clear H1
        exact absurd (Option.some.inj H) (by rw [hr_]; decide)
      ·replace c18 := Bool.eq_false_iff.mpr c18
       subst c18
       have H1 : (some false) = some r := by rw [if_neg (show ¬ (false = true) by decide)] at H; exact H
       clear H
       have H := H1
       clear H1
       exact absurd (Option.some.inj H) (by rw [hr_]; decide)
     ·rw [if_neg c16] at H
      exact absurd H (by simp)
    ·rw [if_neg c15] at H
     exact absurd H (by simp)
   ·rw [if_neg c13] at H
    exact absurd H (by simp)
  ·rw [if_neg c12] at H
   exact absurd H (by simp)

/-- THE ONE PURE STATEMENT of chirographkeep_TakesSwap. -/
def chirographkeep_TakesSwap.Pure : Prop := ∀ (l0 : List (S40)) (a1 : Int) (a2 : Int), l0.length ≤ maxLen → l0.length * 40 ≤ 140737488351232 → (∀ x_ ∈ l0, ((Lit.int .i64 x_.f0).wf = true ∧ (Lit.int .i64 x_.f1).wf = true ∧ (Lit.int .i64 x_.f2).wf = true ∧ x_.f3.size ≤ maxLen)) → (Lit.int .i64 a1).wf = true → (Lit.int .i64 a2).wf = true → ∃ k, chirographkeep_TakesSwap.f k l0 a1 a2 = some true

end Go.Proofs.Ytblnkfnafbmgnaa.QTakesSwap
