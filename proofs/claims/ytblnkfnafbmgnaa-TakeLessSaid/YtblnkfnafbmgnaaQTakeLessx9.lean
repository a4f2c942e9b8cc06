-- WRITTEN BY mkprint.py, a program of this session (out of the translation). Lean checks it.
import Derived.Test.YtblnkfnafbmgnaaQTakeLessx0
import Derived.Test.YtblnkfnafbmgnaaQTakeLessx2
import Derived.Test.YtblnkfnafbmgnaaQTakeLessx4
import Derived.Test.YtblnkfnafbmgnaaQTakeLessx5
import Derived.Test.YtblnkfnafbmgnaaQTakeLessx6
import Derived.Test.YtblnkfnafbmgnaaQTakeLessx8
namespace Go.Proofs.Ytblnkfnafbmgnaa.QTakeLess
open Go.RowKit Go.Proofs.Ytblnkfnafbmgnaa.VPrintWords Go.Proofs.Ytblnkfnafbmgnaa.VPrintLast Go.Proofs.Ytblnkfnafbmgnaa.VPrintMore
attribute [local go_sem] max2_int min2_int max_two min_two max_three min_three max_four min_four   -- for this text's walks alone
set_option linter.unusedVariables false
set_option linter.unusedSimpArgs false

/-! ### right_Has: function 13 -/
mutual
def right_Has.l0 : Nat → Int → Int → Int → List (S28) → Int → Int → Option (Bool × Int)
 | 0, _, _, _, _, _, _ => none
 | k + 1, x1, x2, x3, x25, x26, x27 => if x27 < x26 then (if 0 ≤ x27 then (if x27 < (x25.length : Int) then (if ((rd_T28 x25 x27).f1) = x1 then (if ((rd_T28 x25 x27).f2) = x2 then (right_Has.j1 k x1 x2 x3 x25 x26 x27 (((rd_T28 x25 x27).f3) == x3)) else (right_Has.j1 k x1 x2 x3 x25 x26 x27 false)) else (right_Has.j1 k x1 x2 x3 x25 x26 x27 false)) else (none)) else (none)) else (some (false, 0))
def right_Has.j1 : Nat → Int → Int → Int → List (S28) → Int → Int → Bool → Option (Bool × Int)
 | 0, _, _, _, _, _, _, _ => none
 | k + 1, x1, x2, x3, x25, x26, x27, x46 => if x46 = true then (some (true, 0)) else (right_Has.l0 k x1 x2 x3 x25 x26 (wrap64 (x27 + 1)))
end
def right_Has.f (k : Nat) (l0 : List (S28)) (a1 : Int) (a2 : Int) (a3 : Int) : Option (Bool × Int) := (right_asked.f k l0 a1 a2 a3).bind fun t235 => (if t235 = 0 then ((right_owner.f a2).bind fun t236 => (if t236 = a1 then (some (true, 0)) else (right_Has.l0 k a1 a2 a3 l0 (l0.length : Int) 0))) else (some (false, t235)))
theorem right_Has.mono_l : ∀ k, (∀ y0 y1 y2 y3 y4 y5, LeO (right_Has.l0 k y0 y1 y2 y3 y4 y5) (right_Has.l0 (k + 1) y0 y1 y2 y3 y4 y5)) ∧ (∀ y0 y1 y2 y3 y4 y5 y6, LeO (right_Has.j1 k y0 y1 y2 y3 y4 y5 y6) (right_Has.j1 (k + 1) y0 y1 y2 y3 y4 y5 y6))
 | 0 => ⟨fun _ _ _ _ _ _ r h => by simp [right_Has.l0] at h, fun _ _ _ _ _ _ _ r h => by simp [right_Has.j1] at h⟩
 | k + 1 => by
  obtain ⟨ih0, ih1⟩ := right_Has.mono_l k
  refine ⟨?_, ?_⟩
  ·intro y0 y1 y2 y3 y4 y5
   unfold right_Has.l0
   repeat' first
   | (with_reducible exact ih0 _ _ _ _ _ _)
   | (with_reducible exact ih1 _ _ _ _ _ _ _)
   | (with_reducible exact right_asked.mono _ _ _ _ _)
   | (with_reducible exact LeO.refl _)
   | (with_reducible exact LeO.none _)
   | (with_reducible refine LeO.ite ?_ ?_)
   | (with_reducible refine LeO.bind ?_ (fun _ => ?_))
   | exact ih0 _ _ _ _ _ _
   | exact ih1 _ _ _ _ _ _ _
   | exact right_asked.mono _ _ _ _ _
   | exact LeO.none _
   | refine LeO.ite ?_ ?_
   | refine LeO.bind ?_ (fun _ => ?_)
  ·intro y0 y1 y2 y3 y4 y5 y6
   unfold right_Has.j1
   repeat' first
   | (with_reducible exact ih0 _ _ _ _ _ _)
   | (with_reducible exact ih1 _ _ _ _ _ _ _)
   | (with_reducible exact right_asked.mono _ _ _ _ _)
   | (with_reducible exact LeO.refl _)
   | (with_reducible exact LeO.none _)
   | (with_reducible refine LeO.ite ?_ ?_)
   | (with_reducible refine LeO.bind ?_ (fun _ => ?_))
   | exact ih0 _ _ _ _ _ _
   | exact ih1 _ _ _ _ _ _ _
   | exact right_asked.mono _ _ _ _ _
   | exact LeO.none _
   | refine LeO.ite ?_ ?_
   | refine LeO.bind ?_ (fun _ => ?_)
theorem right_Has.mono : ∀ a0 a1 a2 a3 k, LeO (right_Has.f k a0 a1 a2 a3) (right_Has.f (k + 1) a0 a1 a2 a3) := by
 intro a0 a1 a2 a3 k
 obtain ⟨ih0, ih1⟩ := right_Has.mono_l k
 unfold right_Has.f
 repeat' first
   | (with_reducible exact ih0 _ _ _ _ _ _)
   | (with_reducible exact ih1 _ _ _ _ _ _ _)
   | (with_reducible exact right_asked.mono _ _ _ _ _)
   | (with_reducible exact LeO.refl _)
   | (with_reducible exact LeO.none _)
   | (with_reducible refine LeO.ite ?_ ?_)
   | (with_reducible refine LeO.bind ?_ (fun _ => ?_))
   | exact ih0 _ _ _ _ _ _
   | exact ih1 _ _ _ _ _ _ _
   | exact right_asked.mono _ _ _ _ _
   | exact LeO.none _
   | refine LeO.ite ?_ ?_
   | refine LeO.bind ?_ (fun _ => ?_)
set_option maxHeartbeats 8000000 in
set_option maxRecDepth 100000 in
theorem right_Has.calls (k : Nat) (A0 : Option Addr) (c0 : Nat) (l0 : List (S28)) (a1 : Int) (a2 : Int) (a3 : Int) (r1 : Bool) (r2 : Int) (w : World) (hr0 : Kd.C k28 w A0 l0.length l0) (hc0 : l0.length ≤ c0) (h : right_Has.f k l0 a1 a2 a3 = some (r1, r2)) :
  Calls Try.prog 13 #[.slice A0 l0.length c0, .int .i64 a1, .int .i64 a2, .int .i64 a3] w fun e w' => e = .returned (.tuple #[.bool r1, .int .i64 r2]) ∧ Below w.heap.size w w' := by
 have hu28 := Try.underlying28
 have HR0 := Aside0.mk hr0
 have HC0 := Aside0.mk hc0
 clear hr0 hc0
 have HB := Aside0.mk (Below.refl w.heap.size w)
 have H : ((right_asked.f k l0 a1 a2 a3).bind fun t235 => (if t235 = 0 then ((right_owner.f a2).bind fun t236 => (if t236 = a1 then (some (true, 0)) else (right_Has.l0 k a1 a2 a3 l0 (l0.length : Int) 0))) else (some (false, t235)))) = some (r1, r2) := h
 clear h
 replace H := Option.bind_eq_some_iff.mp H
 obtain ⟨t235, A50, H⟩ := H
 replace H : (if t235 = 0 then ((right_owner.f a2).bind fun t236 => (if t236 = a1 then (some (true, 0)) else (right_Has.l0 k a1 a2 a3 l0 (l0.length : Int) 0))) else (some (false, t235))) = some (r1, r2) := H
 have A5 := Aside0.mk A50
 clear A50
 by_cases c6 : t235 = 0
 ·rw [if_pos c6] at H
  have c6b0 : (t235 == 0) = true := beq_iff_eq.mpr c6
  have c6b1 : (t235 != 0) = false := bne_eq_false_iff_eq.mpr c6
  clear c6
  replace H := Option.bind_eq_some_iff.mp H
  obtain ⟨t236, A70, H⟩ := H
  replace H : (if t236 = a1 then (some (true, 0)) else (right_Has.l0 k a1 a2 a3 l0 (l0.length : Int) 0)) = some (r1, r2) := H
  have A7 := Aside0.mk A70
  clear A70
  by_cases c8 : t236 = a1
  ·rw [if_pos c8] at H
   have c8b0 : (t236 == a1) = true := beq_iff_eq.mpr c8
   have c8b1 : (t236 != a1) = false := bne_eq_false_iff_eq.mpr c8
   clear c8
   simp only [Option.some.injEq, Prod.mk.injEq] at H
   obtain ⟨rfl, rfl⟩ := H
   go_enter Try.func13, Try.ntmps13
   go_wp2_with (first | ((with_reducible refine gate_callee (f := 25) rfl ?_); refine goesL_ (some 17) rfl rfl Try.func25 (by kernel_rfl) rfl #[.slice A0 l0.length c0, .int .i64 a1, .int .i64 a2, .int .i64 a3] rfl (by (try simp only [List.map_toArray, List.map_cons, List.map_nil]); first | done | rfl | (simp only [List.length_drop, List.length_take]; rfl)) ?_; (with_reducible refine (right_asked.calls k _ _ l0 a1 a2 a3 t235 _ ?side1 ?side2 A5.out).mono ?_); (case side1 => repeat (first | exact HR0.out | (with_reducible refine Kd.C_alloc ?_ _) | (with_reducible refine Kd.C_drewN ?_ _) | (with_reducible refine Kd.C_drew ?_))); (case side2 => exact HC0.out); rintro e w9 ⟨rfl, hb⟩; refine ⟨_, rfl, ?_⟩; have n0_ := Aside0.mk (below_step (by repeat (first | (with_reducible first | exact HB.out | apply below_alloc | apply pw_below_drewN | apply below_drew1) | exact HB.out)) hb); clear HB; have HB := n0_; clear n0_; (try clear hb); (try clear hb2); (try clear hk); (try clear hi)) | ((with_reducible refine gate_callee (f := 26) rfl ?_); refine goesL_ (some 22) rfl rfl Try.func26 (by kernel_rfl) rfl #[.int .i64 a2] rfl (by (try simp only [List.map_toArray, List.map_cons, List.map_nil]); first | done | rfl | (simp only [List.length_drop, List.length_take]; rfl)) ?_; (with_reducible refine (right_owner.calls a2 t236 _ A7.out).mono ?_); rintro e w' ⟨rfl, ⟨nd, rfl⟩⟩; refine ⟨_, rfl, ?_⟩))
   go_ret2
   exact ⟨by first | rfl | (simp [errW_none, errW_some] <;> rfl) | (simp [*, errW_none, errW_some] <;> rfl), by repeat (first | (with_reducible first | exact HB.out | apply below_alloc | apply pw_below_drewN | apply below_drew1) | exact HB.out)⟩
  ·rw [if_neg c8] at H
   have c8b0 : (t236 == a1) = false := beq_eq_false_iff_ne.mpr c8
   have c8b1 : (t236 != a1) = true := bne_iff_ne.mpr c8
   have H' := Aside0.mk H
   clear H
   go_enter Try.func13, Try.ntmps13
   go_wp2_with (first | ((with_reducible refine gate_callee (f := 25) rfl ?_); refine goesL_ (some 17) rfl rfl Try.func25 (by kernel_rfl) rfl #[.slice A0 l0.length c0, .int .i64 a1, .int .i64 a2, .int .i64 a3] rfl (by (try simp only [List.map_toArray, List.map_cons, List.map_nil]); first | done | rfl | (simp only [List.length_drop, List.length_take]; rfl)) ?_; (with_reducible refine (right_asked.calls k _ _ l0 a1 a2 a3 t235 _ ?side1 ?side2 A5.out).mono ?_); (case side1 => repeat (first | exact HR0.out | (with_reducible refine Kd.C_alloc ?_ _) | (with_reducible refine Kd.C_drewN ?_ _) | (with_reducible refine Kd.C_drew ?_))); (case side2 => exact HC0.out); rintro e w10 ⟨rfl, hb⟩; refine ⟨_, rfl, ?_⟩; have n0_ := Aside0.mk (below_step (by repeat (first | (with_reducible first | exact HB.out | apply below_alloc | apply pw_below_drewN | apply below_drew1) | exact HB.out)) hb); clear HB; have HB := n0_; clear n0_; (try clear hb); (try clear hb2); (try clear hk); (try clear hi)) | ((with_reducible refine gate_callee (f := 26) rfl ?_); refine goesL_ (some 22) rfl rfl Try.func26 (by kernel_rfl) rfl #[.int .i64 a2] rfl (by (try simp only [List.map_toArray, List.map_cons, List.map_nil]); first | done | rfl | (simp only [List.length_drop, List.length_take]; rfl)) ?_; (with_reducible refine (right_owner.calls a2 t236 _ A7.out).mono ?_); rintro e w' ⟨rfl, ⟨nd, rfl⟩⟩; refine ⟨_, rfl, ?_⟩))
   go_loopg [27] k (fun kq v27 w' => ∃ (x27_1 : Int), v27 = .int .i64 x27_1 ∧ Aside0 (right_Has.l0 kq a1 a2 a3 l0 (l0.length : Int) x27_1 = some (r1, r2)) ∧ Aside0 (kq ≤ k) ∧ Aside0 (Below w.heap.size w w'))
   case atStart => exact ⟨(0), (by first | rfl | (simp; done) | (simp [*]; done)), H', ⟨Nat.le_refl _⟩, ⟨by repeat (first | (with_reducible first | exact HB.out | apply below_alloc | apply pw_below_drewN | apply below_drew1) | exact HB.out)⟩⟩
   case round =>
    clear H'
    try clear c1
    try clear c2
    try clear p2
    try clear c6
    try clear c6b0
    try clear c6b1
    try clear c8
    try clear c8b0
    try clear c8b1
    obtain ⟨x27_1, rfl, HA, HK1, HB⟩ := hrel
    cases gk with
    | zero => exact absurd HA.out (by simp [right_Has.l0])
    | succ k1 =>
     have H := HA.out
     clear HA
     simp only [right_Has.l0] at H
     by_cases c11 : x27_1 < (l0.length : Int)
     ·rw [if_pos c11] at H
      have c11b0 : decide (x27_1 < (l0.length : Int)) = true := decide_eq_true c11
      clear c11
      by_cases c12 : 0 ≤ x27_1
      ·rw [if_pos c12] at H
       have c12b0 : decide (0 ≤ x27_1) = true := decide_eq_true c12
       clear c12
       by_cases c13 : x27_1 < (l0.length : Int)
       ·rw [if_pos c13] at H
        have c13b0 : decide (x27_1 < (l0.length : Int)) = true := decide_eq_true c13
        clear c13
        have HC14 := Aside0.mk H
        clear H
        have p237 : 0 ≤ (x27_1 : Int) := of_decide_eq_true (by first | (with_reducible assumption) | assumption)
        have q237 : x27_1 < (l0.length : Int) := of_decide_eq_true (by first | (with_reducible assumption) | assumption)
        obtain ⟨ad237, e237, hx237_0, hx237_1, hx237_2, hx237_3, hx237_4⟩ := at_T28 HR0.out x27_1 p237 q237
        cases e237
        replace hx237_0 := (HB.out.cell (World.block_lt_of_cell? w _ hx237_0)).trans hx237_0
        replace hx237_1 := (HB.out.cell (World.block_lt_of_cell? w _ hx237_1)).trans hx237_1
        replace hx237_2 := (HB.out.cell (World.block_lt_of_cell? w _ hx237_2)).trans hx237_2
        replace hx237_3 := (HB.out.cell (World.block_lt_of_cell? w _ hx237_3)).trans hx237_3
        replace hx237_4 := (HB.out.cell (World.block_lt_of_cell? w _ hx237_4)).trans hx237_4
        replace p237 := eq_true p237
        replace q237 := eq_true q237
        go_upto_region 9 with (first | ((with_reducible refine gate_dst (N := 12) rfl ?_); refine box_event ?hg (N := 12) ?hd (cs := #[.int .i64 0, .int .i64 0, .int .i64 0, .int .i64 0, .bool false]) (t := 28) ?hr ?_; (case hd => rfl); (case hg => rfl); (case hr => first | (go_simp; done) | (go_simp; rfl)); intro gb238 hg w15 hbox hb; have n0_ := Aside0.mk (below_step (by repeat (first | (with_reducible first | exact HB.out | apply below_alloc | apply pw_below_drewN | apply below_drew1) | exact HB.out)) hb); have n1_ := Aside0.mk (hbox); have n2_ := Aside0.mk ((by rw [hg]; exact (below_size (by repeat (first | (with_reducible first | exact HB.out | apply below_alloc | apply pw_below_drewN | apply below_drew1) | exact HB.out))) : w.heap.size ≤ gb238)); have n3_ := Aside0.mk ((by rw [hg]; exact (below_size (by repeat (first | (with_reducible first | exact HB.out | apply below_alloc | apply pw_below_drewN | apply below_drew1) | exact HB.out))) : w.heap.size ≤ gb238)); clear HB; have HB := n0_; have BK238 := n1_; have GW238 := n2_; have GE238 := n3_; clear n0_ n1_ n2_ n3_; clear hb hbox hg; have hcz16_0 : w15.cell? ⟨gb238, 0, none⟩ = some (.int .i64 0) := (blk_cell BK238.out 0).trans rfl; have hcz16_1 : w15.cell? ⟨gb238, 1, none⟩ = some (.int .i64 0) := (blk_cell BK238.out 1).trans rfl; have hcz16_2 : w15.cell? ⟨gb238, 2, none⟩ = some (.int .i64 0) := (blk_cell BK238.out 2).trans rfl; have hcz16_3 : w15.cell? ⟨gb238, 3, none⟩ = some (.int .i64 0) := (blk_cell BK238.out 3).trans rfl; have hcz16_4 : w15.cell? ⟨gb238, 4, none⟩ = some (.bool false) := (blk_cell BK238.out 4).trans rfl; have hfz16_0 := blk_frozen BK238.out 0; have hfz16_1 := blk_frozen BK238.out 1; have hfz16_2 := blk_frozen BK238.out 2; have hfz16_3 := blk_frozen BK238.out 3; have hfz16_4 := blk_frozen BK238.out 4))
        (try simp only [Act.put, List.setIfInBounds_toArray, List.set_cons_zero, List.set_cons_succ])
        go_cut [46] (fun v46 wc => ∃ (kq : Nat) (x46_13 : Bool), v46 = .bool x46_13 ∧ Aside0 (right_Has.j1 kq a1 a2 a3 l0 (l0.length : Int) x27_1 x46_13 = some (r1, r2)) ∧ Aside0 (kq ≤ k1) ∧ Aside0 (wc.heap[gb238]? = some (.cells #[.int .i64 ((rd_T28 l0 x27_1).f0), .int .i64 ((rd_T28 l0 x27_1).f1), .int .i64 ((rd_T28 l0 x27_1).f2), .int .i64 ((rd_T28 l0 x27_1).f3), .bool ((rd_T28 l0 x27_1).f4)] 28 (0, 0))) ∧ Aside0 (Below w.heap.size w wc))
        case first =>
         have H := HC14.out
         clear HC14
         by_cases c17 : ((rd_T28 l0 x27_1).f1) = a1
         ·rw [if_pos c17] at H
          have c17b0 : (((rd_T28 l0 x27_1).f1) == a1) = true := beq_iff_eq.mpr c17
          have c17b1 : (((rd_T28 l0 x27_1).f1) != a1) = false := bne_eq_false_iff_eq.mpr c17
          clear c17
          (first | rw [c17b0] | (simp only [i64_w, i32_w]; rw [c17b0]) | skip)
          by_cases c18 : ((rd_T28 l0 x27_1).f2) = a2
          ·rw [if_pos c18] at H
           have c18b0 : (((rd_T28 l0 x27_1).f2) == a2) = true := beq_iff_eq.mpr c18
           have c18b1 : (((rd_T28 l0 x27_1).f2) != a2) = false := bne_eq_false_iff_eq.mpr c18
           clear c18
           have H' := Aside0.mk H
           clear H
           have hcz19_0 : w15.cell? ⟨gb238, 0, none⟩ = some (.int .i64 0) := (blk_cell BK238.out 0).trans rfl
           have hcz19_1 : w15.cell? ⟨gb238, 1, none⟩ = some (.int .i64 0) := (blk_cell BK238.out 1).trans rfl
           have hcz19_2 : w15.cell? ⟨gb238, 2, none⟩ = some (.int .i64 0) := (blk_cell BK238.out 2).trans rfl
           have hcz19_3 : w15.cell? ⟨gb238, 3, none⟩ = some (.int .i64 0) := (blk_cell BK238.out 3).trans rfl
           have hcz19_4 : w15.cell? ⟨gb238, 4, none⟩ = some (.bool false) := (blk_cell BK238.out 4).trans rfl
           have hfz19_0 := blk_frozen BK238.out 0
           have hfz19_1 := blk_frozen BK238.out 1
           have hfz19_2 := blk_frozen BK238.out 2
           have hfz19_3 := blk_frozen BK238.out 3
           have hfz19_4 := blk_frozen BK238.out 4
           go_wp2
           go_meet
           case rel => exact ⟨_, ((((rd_T28 l0 x27_1).f3) == a3)), (by first | rfl | (simp; done) | (simp [*]; done)), H', ⟨by have := HK1.out; first | omega | exact Nat.le_refl _⟩, ⟨by (with_reducible repeat (first | refine blk_drewN ?_ _ | refine blk_drew ?_ | refine blk_alloc ?_ _)); refine blk_put (cs := #[.int .i64 ((rd_T28 l0 x27_1).f0), .int .i64 ((rd_T28 l0 x27_1).f1), .int .i64 ((rd_T28 l0 x27_1).f2), .int .i64 ((rd_T28 l0 x27_1).f3), .bool false]) ?_ 4 _ rfl; (with_reducible repeat (first | refine blk_drewN ?_ _ | refine blk_drew ?_ | refine blk_alloc ?_ _)); refine blk_put (cs := #[.int .i64 ((rd_T28 l0 x27_1).f0), .int .i64 ((rd_T28 l0 x27_1).f1), .int .i64 ((rd_T28 l0 x27_1).f2), .int .i64 0, .bool false]) ?_ 3 _ rfl; (with_reducible repeat (first | refine blk_drewN ?_ _ | refine blk_drew ?_ | refine blk_alloc ?_ _)); refine blk_put (cs := #[.int .i64 ((rd_T28 l0 x27_1).f0), .int .i64 ((rd_T28 l0 x27_1).f1), .int .i64 0, .int .i64 0, .bool false]) ?_ 2 _ rfl; (with_reducible repeat (first | refine blk_drewN ?_ _ | refine blk_drew ?_ | refine blk_alloc ?_ _)); refine blk_put (cs := #[.int .i64 ((rd_T28 l0 x27_1).f0), .int .i64 0, .int .i64 0, .int .i64 0, .bool false]) ?_ 1 _ rfl; (with_reducible repeat (first | refine blk_drewN ?_ _ | refine blk_drew ?_ | refine blk_alloc ?_ _)); refine blk_put (cs := #[.int .i64 0, .int .i64 0, .int .i64 0, .int .i64 0, .bool false]) ?_ 0 _ rfl; (with_reducible repeat (first | refine blk_drewN ?_ _ | refine blk_drew ?_ | refine blk_alloc ?_ _)); exact BK238.out⟩, ⟨by repeat (first | (with_reducible first | exact HB.out | apply below_alloc | apply pw_below_drewN | apply below_drew1 | refine below_set ?_ GE238.out) | exact HB.out)⟩⟩
          ·rw [if_neg c18] at H
           have c18b0 : (((rd_T28 l0 x27_1).f2) == a2) = false := beq_eq_false_iff_ne.mpr c18
           have c18b1 : (((rd_T28 l0 x27_1).f2) != a2) = true := bne_iff_ne.mpr c18
           have H' := Aside0.mk H
           clear H
           have hcz20_0 : w15.cell? ⟨gb238, 0, none⟩ = some (.int .i64 0) := (blk_cell BK238.out 0).trans rfl
           have hcz20_1 : w15.cell? ⟨gb238, 1, none⟩ = some (.int .i64 0) := (blk_cell BK238.out 1).trans rfl
           have hcz20_2 : w15.cell? ⟨gb238, 2, none⟩ = some (.int .i64 0) := (blk_cell BK238.out 2).trans rfl
           have hcz20_3 : w15.cell? ⟨gb238, 3, none⟩ = some (.int .i64 0) := (blk_cell BK238.out 3).trans rfl
           have hcz20_4 : w15.cell? ⟨gb238, 4, none⟩ = some (.bool false) := (blk_cell BK238.out 4).trans rfl
           have hfz20_0 := blk_frozen BK238.out 0
           have hfz20_1 := blk_frozen BK238.out 1
           have hfz20_2 := blk_frozen BK238.out 2
           have hfz20_3 := blk_frozen BK238.out 3
           have hfz20_4 := blk_frozen BK238.out 4
           go_wp2
           go_meet
           case rel => exact ⟨_, (false), (by first | rfl | (simp; done) | (simp [*]; done)), H', ⟨by have := HK1.out; first | omega | exact Nat.le_refl _⟩, ⟨by (with_reducible repeat (first | refine blk_drewN ?_ _ | refine blk_drew ?_ | refine blk_alloc ?_ _)); refine blk_put (cs := #[.int .i64 ((rd_T28 l0 x27_1).f0), .int .i64 ((rd_T28 l0 x27_1).f1), .int .i64 ((rd_T28 l0 x27_1).f2), .int .i64 ((rd_T28 l0 x27_1).f3), .bool false]) ?_ 4 _ rfl; (with_reducible repeat (first | refine blk_drewN ?_ _ | refine blk_drew ?_ | refine blk_alloc ?_ _)); refine blk_put (cs := #[.int .i64 ((rd_T28 l0 x27_1).f0), .int .i64 ((rd_T28 l0 x27_1).f1), .int .i64 ((rd_T28 l0 x27_1).f2), .int .i64 0, .bool false]) ?_ 3 _ rfl; (with_reducible repeat (first | refine blk_drewN ?_ _ | refine blk_drew ?_ | refine blk_alloc ?_ _)); refine blk_put (cs := #[.int .i64 ((rd_T28 l0 x27_1).f0), .int .i64 ((rd_T28 l0 x27_1).f1), .int .i64 0, .int .i64 0, .bool false]) ?_ 2 _ rfl; (with_reducible repeat (first | refine blk_drewN ?_ _ | refine blk_drew ?_ | refine blk_alloc ?_ _)); refine blk_put (cs := #[.int .i64 ((rd_T28 l0 x27_1).f0), .int .i64 0, .int .i64 0, .int .i64 0, .bool false]) ?_ 1 _ rfl; (with_reducible repeat (first | refine blk_drewN ?_ _ | refine blk_drew ?_ | refine blk_alloc ?_ _)); refine blk_put (cs := #[.int .i64 0, .int .i64 0, .int .i64 0, .int .i64 0, .bool false]) ?_ 0 _ rfl; (with_reducible repeat (first | refine blk_drewN ?_ _ | refine blk_drew ?_ | refine blk_alloc ?_ _)); exact BK238.out⟩, ⟨by repeat (first | (with_reducible first | exact HB.out | apply below_alloc | apply pw_below_drewN | apply below_drew1 | refine below_set ?_ GE238.out) | exact HB.out)⟩⟩
         ·rw [if_neg c17] at H
          have c17b0 : (((rd_T28 l0 x27_1).f1) == a1) = false := beq_eq_false_iff_ne.mpr c17
          have c17b1 : (((rd_T28 l0 x27_1).f1) != a1) = true := bne_iff_ne.mpr c17
          (first | rw [c17b0] | (simp only [i64_w, i32_w]; rw [c17b0]) | skip)
          have H' := Aside0.mk H
          clear H
          have hcz21_0 : w15.cell? ⟨gb238, 0, none⟩ = some (.int .i64 0) := (blk_cell BK238.out 0).trans rfl
          have hcz21_1 : w15.cell? ⟨gb238, 1, none⟩ = some (.int .i64 0) := (blk_cell BK238.out 1).trans rfl
          have hcz21_2 : w15.cell? ⟨gb238, 2, none⟩ = some (.int .i64 0) := (blk_cell BK238.out 2).trans rfl
          have hcz21_3 : w15.cell? ⟨gb238, 3, none⟩ = some (.int .i64 0) := (blk_cell BK238.out 3).trans rfl
          have hcz21_4 : w15.cell? ⟨gb238, 4, none⟩ = some (.bool false) := (blk_cell BK238.out 4).trans rfl
          have hfz21_0 := blk_frozen BK238.out 0
          have hfz21_1 := blk_frozen BK238.out 1
          have hfz21_2 := blk_frozen BK238.out 2
          have hfz21_3 := blk_frozen BK238.out 3
          have hfz21_4 := blk_frozen BK238.out 4
          go_wp2
          go_meet
          case rel => exact ⟨_, (false), (by first | rfl | (simp; done) | (simp [*]; done)), H', ⟨by have := HK1.out; first | omega | exact Nat.le_refl _⟩, ⟨by (with_reducible repeat (first | refine blk_drewN ?_ _ | refine blk_drew ?_ | refine blk_alloc ?_ _)); refine blk_put (cs := #[.int .i64 ((rd_T28 l0 x27_1).f0), .int .i64 ((rd_T28 l0 x27_1).f1), .int .i64 ((rd_T28 l0 x27_1).f2), .int .i64 ((rd_T28 l0 x27_1).f3), .bool false]) ?_ 4 _ rfl; (with_reducible repeat (first | refine blk_drewN ?_ _ | refine blk_drew ?_ | refine blk_alloc ?_ _)); refine blk_put (cs := #[.int .i64 ((rd_T28 l0 x27_1).f0), .int .i64 ((rd_T28 l0 x27_1).f1), .int .i64 ((rd_T28 l0 x27_1).f2), .int .i64 0, .bool false]) ?_ 3 _ rfl; (with_reducible repeat (first | refine blk_drewN ?_ _ | refine blk_drew ?_ | refine blk_alloc ?_ _)); refine blk_put (cs := #[.int .i64 ((rd_T28 l0 x27_1).f0), .int .i64 ((rd_T28 l0 x27_1).f1), .int .i64 0, .int .i64 0, .bool false]) ?_ 2 _ rfl; (with_reducible repeat (first | refine blk_drewN ?_ _ | refine blk_drew ?_ | refine blk_alloc ?_ _)); refine blk_put (cs := #[.int .i64 ((rd_T28 l0 x27_1).f0), .int .i64 0, .int .i64 0, .int .i64 0, .bool false]) ?_ 1 _ rfl; (with_reducible repeat (first | refine blk_drewN ?_ _ | refine blk_drew ?_ | refine blk_alloc ?_ _)); refine blk_put (cs := #[.int .i64 0, .int .i64 0, .int .i64 0, .int .i64 0, .bool false]) ?_ 0 _ rfl; (with_reducible repeat (first | refine blk_drewN ?_ _ | refine blk_drew ?_ | refine blk_alloc ?_ _)); exact BK238.out⟩, ⟨by repeat (first | (with_reducible first | exact HB.out | apply below_alloc | apply pw_below_drewN | apply below_drew1 | refine below_set ?_ GE238.out) | exact HB.out)⟩⟩
        case rest =>
         clear HC14
         try clear c1
         try clear c2
         try clear p2
         try clear q2
         try clear hx2
         try clear c6
         try clear c6b0
         try clear c6b1
         try clear c8
         try clear c8b0
         try clear c8b1
         try clear c11
         try clear c11b0
         try clear c12
         try clear c12b0
         try clear c13
         try clear c13b0
         try clear c17
         try clear c17b0
         try clear c17b1
         try clear c18
         try clear c18b0
         try clear c18b1
         try clear hcz16_0
         try clear hcz16_1
         try clear hcz16_2
         try clear hcz16_3
         try clear hcz16_4
         try clear hcz19_0
         try clear hcz19_1
         try clear hcz19_2
         try clear hcz19_3
         try clear hcz19_4
         try clear hcz20_0
         try clear hcz20_1
         try clear hcz20_2
         try clear hcz20_3
         try clear hcz20_4
         try clear hcz21_0
         try clear hcz21_1
         try clear hcz21_2
         try clear hcz21_3
         try clear hcz21_4
         try clear hfz16_0
         try clear hfz16_1
         try clear hfz16_2
         try clear hfz16_3
         try clear hfz16_4
         try clear hfz19_0
         try clear hfz19_1
         try clear hfz19_2
         try clear hfz19_3
         try clear hfz19_4
         try clear hfz20_0
         try clear hfz20_1
         try clear hfz20_2
         try clear hfz20_3
         try clear hfz20_4
         try clear hfz21_0
         try clear hfz21_1
         try clear hfz21_2
         try clear hfz21_3
         try clear hfz21_4
         try clear hx237_0
         try clear hx237_1
         try clear hx237_2
         try clear hx237_3
         try clear hx237_4
         try clear p2
         try clear p237
         try clear q237
         obtain ⟨kq, x46_13, rfl, HA, HJ13, BK238, HB⟩ := hcut
         cases kq with
         | zero => exact absurd HA.out (by simp [right_Has.j1])
         | succ kj13 =>
          have H := HA.out
          clear HA
          simp only [right_Has.j1] at H
          by_cases c22 : x46_13 = true
          ·subst c22
           have H1 : (some (true, 0)) = some (r1, r2) := by rw [if_pos rfl] at H; exact H
           clear H
           have H := H1
           clear H1
           simp only [Option.some.injEq, Prod.mk.injEq] at H
           obtain ⟨rfl, rfl⟩ := H
           go_wp2
           go_ret2
           exact ⟨by first | rfl | (simp [errW_none, errW_some] <;> rfl) | (simp [*, errW_none, errW_some] <;> rfl), by repeat (first | (with_reducible first | exact HB.out | apply below_alloc | apply pw_below_drewN | apply below_drew1 | refine below_set ?_ GE238.out) | exact HB.out)⟩
          ·replace c22 := Bool.eq_false_iff.mpr c22
           subst c22
           have H1 : (right_Has.l0 kj13 a1 a2 a3 l0 (l0.length : Int) (wrap64 (x27_1 + 1))) = some (r1, r2) := by rw [if_neg (show ¬ (false = true) by decide)] at H; exact H
           clear H
           have H := H1
           clear H1
           have H' := Aside0.mk H
           clear H
           go_wp2
           go_roundg kj13
           case measure => have := HK1.out; have := HJ13.out; omega
           case rel => exact ⟨(wrap64 (x27_1 + 1)), (by first | rfl | (simp; done) | (simp [*]; done)), H', ⟨by have := HK1.out; have := HJ13.out; omega⟩, ⟨by repeat (first | (with_reducible first | exact HB.out | apply below_alloc | apply pw_below_drewN | apply below_drew1 | refine below_set ?_ GE238.out) | exact HB.out)⟩⟩
       ·rw [if_neg c13] at H
        exact absurd H (by simp)
      ·rw [if_neg c12] at H
       exact absurd H (by simp)
     ·rw [if_neg c11] at H
      have c11b0 : decide (x27_1 < (l0.length : Int)) = false := decide_eq_false c11
      clear c11
      simp only [Option.some.injEq, Prod.mk.injEq] at H
      obtain ⟨rfl, rfl⟩ := H
      go_wp2
      go_ret2
      exact ⟨by first | rfl | (simp [errW_none, errW_some] <;> rfl) | (simp [*, errW_none, errW_some] <;> rfl), by repeat (first | (with_reducible first | exact HB.out | apply below_alloc | apply pw_below_drewN | apply below_drew1) | exact HB.out)⟩
 ·rw [if_neg c6] at H
  have c6b0 : (t235 == 0) = false := beq_eq_false_iff_ne.mpr c6
  have c6b1 : (t235 != 0) = true := bne_iff_ne.mpr c6
  simp only [Option.some.injEq, Prod.mk.injEq] at H
  obtain ⟨rfl, rfl⟩ := H
  go_enter Try.func13, Try.ntmps13
  go_wp2_with (first | ((with_reducible refine gate_callee (f := 25) rfl ?_); refine goesL_ (some 17) rfl rfl Try.func25 (by kernel_rfl) rfl #[.slice A0 l0.length c0, .int .i64 a1, .int .i64 a2, .int .i64 a3] rfl (by (try simp only [List.map_toArray, List.map_cons, List.map_nil]); first | done | rfl | (simp only [List.length_drop, List.length_take]; rfl)) ?_; (with_reducible refine (right_asked.calls k _ _ l0 a1 a2 a3 t235 _ ?side1 ?side2 A5.out).mono ?_); (case side1 => repeat (first | exact HR0.out | (with_reducible refine Kd.C_alloc ?_ _) | (with_reducible refine Kd.C_drewN ?_ _) | (with_reducible refine Kd.C_drew ?_))); (case side2 => exact HC0.out); rintro e w23 ⟨rfl, hb⟩; refine ⟨_, rfl, ?_⟩; have n0_ := Aside0.mk (below_step (by repeat (first | (with_reducible first | exact HB.out | apply below_alloc | apply pw_below_drewN | apply below_drew1) | exact HB.out)) hb); clear HB; have HB := n0_; clear n0_; (try clear hb); (try clear hb2); (try clear hk); (try clear hi)))
  go_ret2
  exact ⟨by first | rfl | (simp [errW_none, errW_some] <;> rfl) | (simp [*, errW_none, errW_some] <;> rfl), by repeat (first | (with_reducible first | exact HB.out | apply below_alloc | apply pw_below_drewN | apply below_drew1) | exact HB.out)⟩

/-! ### chirographkeep_rightTells: function 10 -/
def chirographkeep_rightTells.f (k : Nat)  : Option (Bool) := (right_Give.f k ([] : List (S28)) 0 1 0 1 false).bind fun bt239 => ((right_Has.f k bt239.1 1 0 1).bind fun bt243 => (if bt239.2 = 0 then (if bt243.2 = 0 then (if bt243.1 = true then (some ((bt239.1.length : Int) == 1)) else (some false)) else (some false)) else (some false)))
theorem chirographkeep_rightTells.mono : ∀ k, LeO (chirographkeep_rightTells.f k ) (chirographkeep_rightTells.f (k + 1) ) := by
 intro  k
 unfold chirographkeep_rightTells.f
 repeat' first
   | (with_reducible exact right_Give.mono _ _ _ _ _ _ _)
   | (with_reducible exact right_Has.mono _ _ _ _ _)
   | (with_reducible exact LeO.refl _)
   | (with_reducible exact LeO.none _)
   | (with_reducible refine LeO.ite ?_ ?_)
   | (with_reducible refine LeO.bind ?_ (fun _ => ?_))
   | exact right_Give.mono _ _ _ _ _ _ _
   | exact right_Has.mono _ _ _ _ _
   | exact LeO.none _
   | refine LeO.ite ?_ ?_
   | refine LeO.bind ?_ (fun _ => ?_)
set_option maxHeartbeats 8000000 in
set_option maxRecDepth 100000 in
theorem chirographkeep_rightTells.calls (k : Nat)  (r : Bool) (w : World) (h : chirographkeep_rightTells.f k  = some r) :
  Calls Try.prog 10 #[] w fun e w' => e = .returned (.bool r) ∧ Below w.heap.size w w' := by
 have hu28 := Try.underlying28
 have HB := Aside0.mk (Below.refl w.heap.size w)
 have H : ((right_Give.f k ([] : List (S28)) 0 1 0 1 false).bind fun bt239 => ((right_Has.f k bt239.1 1 0 1).bind fun bt243 => (if bt239.2 = 0 then (if bt243.2 = 0 then (if bt243.1 = true then (some ((bt239.1.length : Int) == 1)) else (some false)) else (some false)) else (some false)))) = some r := h
 clear h
 replace H := Option.bind_eq_some_iff.mp H
 obtain ⟨⟨t239, t242⟩, A10, H⟩ := H
 replace H : ((right_Has.f k t239 1 0 1).bind fun bt243 => (if t242 = 0 then (if bt243.2 = 0 then (if bt243.1 = true then (some ((t239.length : Int) == 1)) else (some false)) else (some false)) else (some false))) = some r := H
 have A1 := Aside0.mk A10
 clear A10
 replace H := Option.bind_eq_some_iff.mp H
 obtain ⟨⟨t243, t244⟩, A20, H⟩ := H
 replace H : (if t242 = 0 then (if t244 = 0 then (if t243 = true then (some ((t239.length : Int) == 1)) else (some false)) else (some false)) else (some false)) = some r := H
 have A2 := Aside0.mk A20
 clear A20
 by_cases c3 : t242 = 0
 ·rw [if_pos c3] at H
  have c3b0 : (t242 == 0) = true := beq_iff_eq.mpr c3
  have c3b1 : (t242 != 0) = false := bne_eq_false_iff_eq.mpr c3
  clear c3
  by_cases c4 : t244 = 0
  ·rw [if_pos c4] at H
   have c4b0 : (t244 == 0) = true := beq_iff_eq.mpr c4
   have c4b1 : (t244 != 0) = false := bne_eq_false_iff_eq.mpr c4
   clear c4
   by_cases c5 : t243 = true
   ·subst c5
    have H1 : (some ((t239.length : Int) == 1)) = some r := by rw [if_pos rfl] at H; exact H
    clear H
    have H := H1
    clear H1
    obtain rfl := Option.some.inj H
    go_enter Try.func10, Try.ntmps10
    go_wp2_with (first | ((with_reducible refine gate_callee (f := 16) rfl ?_); refine goesL_ (some 7) rfl rfl Try.func16 (by kernel_rfl) rfl #[.slice none 0 0, .agg #[.int .i64 0, .int .i64 1, .int .i64 0, .int .i64 1, .bool false]] rfl (by (try simp only [List.map_toArray, List.map_cons, List.map_nil]); first | done | rfl | (simp only [List.length_drop, List.length_take]; rfl)) ?_; (refine (right_Give.calls k _ _ ([] : List (S28)) 0 1 0 1 false t239 t242 _ ?side1 ?side2 A1.out).mono ?_); (case side1 => exact Kd.C_nil _ _); (case side2 => exact Nat.le_refl _); rintro e w6 ⟨v240, rfl, ho0, hb⟩; refine ⟨_, rfl, ?_⟩; have n0_ := Aside0.mk (Kd.R_lower ho0 (below_size (by repeat (first | (with_reducible first | exact HB.out | apply below_alloc | apply pw_below_drewN | apply below_drew1) | exact HB.out)))); have n1_ := Aside0.mk (below_step (by repeat (first | (with_reducible first | exact HB.out | apply below_alloc | apply pw_below_drewN | apply below_drew1) | exact HB.out)) hb); clear HB; have HO241 := n0_; have HB := n1_; clear n0_ n1_; (try clear hb); (try clear hb2); (try clear hk); (try clear hi); (try clear ho0); obtain ⟨Ao7, co7, eo7⟩ := Kd.R_slice HO241.out; subst eo7) | ((with_reducible refine gate_callee (f := 13) rfl ?_); refine goesL_ (some 12) rfl rfl Try.func13 (by kernel_rfl) rfl #[.slice Ao7 t239.length co7, .int .i64 1, .int .i64 0, .int .i64 1] rfl (by (try simp only [List.map_toArray, List.map_cons, List.map_nil]); first | done | rfl | (simp only [List.length_drop, List.length_take]; rfl)) ?_; (with_reducible refine (right_Has.calls k _ _ t239 1 0 1 true t244 _ ?side1 ?side2 A2.out).mono ?_); (case side1 => repeat (first | exact (Kd.R_reads' HO241.out).2.2 | (with_reducible refine Kd.C_alloc ?_ _) | (with_reducible refine Kd.C_drewN ?_ _) | (with_reducible refine Kd.C_drew ?_))); (case side2 => exact (Kd.R_reads' HO241.out).2.1); rintro e w8 ⟨rfl, hb⟩; refine ⟨_, rfl, ?_⟩; have n0_ := Aside0.mk (Kd.R_below (by (with_reducible repeat (first | apply Kd.R_alloc | apply Kd.R_drewN | apply Kd.R_drew)); exact HO241.out) hb); have n1_ := Aside0.mk (below_step (by repeat (first | (with_reducible first | exact HB.out | apply below_alloc | apply pw_below_drewN | apply below_drew1) | exact HB.out)) hb); clear HO241; clear HB; have HO241 := n0_; have HB := n1_; clear n0_ n1_; (try clear hb); (try clear hb2); (try clear hk); (try clear hi)))
    go_ret
    exact ⟨by first | rfl | (simp [errW_none, errW_some] <;> rfl) | (simp [*, errW_none, errW_some] <;> rfl), by repeat (first | (with_reducible first | exact HB.out | apply below_alloc | apply pw_below_drewN | apply below_drew1) | exact HB.out)⟩
   ·replace c5 := Bool.eq_false_iff.mpr c5
    subst c5
    have H1 : (some false) = some r := by rw [if_neg (show ¬ (false = true) by decide)] at H; exact H
    clear H
    have H := H1
    clear H1
    obtain rfl := Option.some.inj H
    go_enter Try.func10, Try.ntmps10
    go_wp2_with (first | ((with_reducible refine gate_callee (f := 16) rfl ?_); refine goesL_ (some 7) rfl rfl Try.func16 (by kernel_rfl) rfl #[.slice none 0 0, .agg #[.int .i64 0, .int .i64 1, .int .i64 0, .int .i64 1, .bool false]] rfl (by (try simp only [List.map_toArray, List.map_cons, List.map_nil]); first | done | rfl | (simp only [List.length_drop, List.length_take]; rfl)) ?_; (refine (right_Give.calls k _ _ ([] : List (S28)) 0 1 0 1 false t239 t242 _ ?side1 ?side2 A1.out).mono ?_); (case side1 => exact Kd.C_nil _ _); (case side2 => exact Nat.le_refl _); rintro e w9 ⟨v240, rfl, ho0, hb⟩; refine ⟨_, rfl, ?_⟩; have n0_ := Aside0.mk (Kd.R_lower ho0 (below_size (by repeat (first | (with_reducible first | exact HB.out | apply below_alloc | apply pw_below_drewN | apply below_drew1) | exact HB.out)))); have n1_ := Aside0.mk (below_step (by repeat (first | (with_reducible first | exact HB.out | apply below_alloc | apply pw_below_drewN | apply below_drew1) | exact HB.out)) hb); clear HB; have HO241 := n0_; have HB := n1_; clear n0_ n1_; (try clear hb); (try clear hb2); (try clear hk); (try clear hi); (try clear ho0); obtain ⟨Ao10, co10, eo10⟩ := Kd.R_slice HO241.out; subst eo10) | ((with_reducible refine gate_callee (f := 13) rfl ?_); refine goesL_ (some 12) rfl rfl Try.func13 (by kernel_rfl) rfl #[.slice Ao10 t239.length co10, .int .i64 1, .int .i64 0, .int .i64 1] rfl (by (try simp only [List.map_toArray, List.map_cons, List.map_nil]); first | done | rfl | (simp only [List.length_drop, List.length_take]; rfl)) ?_; (with_reducible refine (right_Has.calls k _ _ t239 1 0 1 false t244 _ ?side1 ?side2 A2.out).mono ?_); (case side1 => repeat (first | exact (Kd.R_reads' HO241.out).2.2 | (with_reducible refine Kd.C_alloc ?_ _) | (with_reducible refine Kd.C_drewN ?_ _) | (with_reducible refine Kd.C_drew ?_))); (case side2 => exact (Kd.R_reads' HO241.out).2.1); rintro e w11 ⟨rfl, hb⟩; refine ⟨_, rfl, ?_⟩; have n0_ := Aside0.mk (Kd.R_below (by (with_reducible repeat (first | apply Kd.R_alloc | apply Kd.R_drewN | apply Kd.R_drew)); exact HO241.out) hb); have n1_ := Aside0.mk (below_step (by repeat (first | (with_reducible first | exact HB.out | apply below_alloc | apply pw_below_drewN | apply below_drew1) | exact HB.out)) hb); clear HO241; clear HB; have HO241 := n0_; have HB := n1_; clear n0_ n1_; (try clear hb); (try clear hb2); (try clear hk); (try clear hi)))
    go_ret
    exact ⟨by first | rfl | (simp [errW_none, errW_some] <;> rfl) | (simp [*, errW_none, errW_some] <;> rfl), by repeat (first | (with_reducible first | exact HB.out | apply below_alloc | apply pw_below_drewN | apply below_drew1) | exact HB.out)⟩
  ·rw [if_neg c4] at H
   have c4b0 : (t244 == 0) = false := beq_eq_false_iff_ne.mpr c4
   have c4b1 : (t244 != 0) = true := bne_iff_ne.mpr c4
   obtain rfl := Option.some.inj H
   go_enter Try.func10, Try.ntmps10
   go_wp2_with (first | ((with_reducible refine gate_callee (f := 16) rfl ?_); refine goesL_ (some 7) rfl rfl Try.func16 (by kernel_rfl) rfl #[.slice none 0 0, .agg #[.int .i64 0, .int .i64 1, .int .i64 0, .int .i64 1, .bool false]] rfl (by (try simp only [List.map_toArray, List.map_cons, List.map_nil]); first | done | rfl | (simp only [List.length_drop, List.length_take]; rfl)) ?_; (refine (right_Give.calls k _ _ ([] : List (S28)) 0 1 0 1 false t239 t242 _ ?side1 ?side2 A1.out).mono ?_); (case side1 => exact Kd.C_nil _ _); (case side2 => exact Nat.le_refl _); rintro e w12 ⟨v240, rfl, ho0, hb⟩; refine ⟨_, rfl, ?_⟩; have n0_ := Aside0.mk (Kd.R_lower ho0 (below_size (by repeat (first | (with_reducible first | exact HB.out | apply below_alloc | apply pw_below_drewN | apply below_drew1) | exact HB.out)))); have n1_ := Aside0.mk (below_step (by repeat (first | (with_reducible first | exact HB.out | apply below_alloc | apply pw_below_drewN | apply below_drew1) | exact HB.out)) hb); clear HB; have HO241 := n0_; have HB := n1_; clear n0_ n1_; (try clear hb); (try clear hb2); (try clear hk); (try clear hi); (try clear ho0); obtain ⟨Ao13, co13, eo13⟩ := Kd.R_slice HO241.out; subst eo13) | ((with_reducible refine gate_callee (f := 13) rfl ?_); refine goesL_ (some 12) rfl rfl Try.func13 (by kernel_rfl) rfl #[.slice Ao13 t239.length co13, .int .i64 1, .int .i64 0, .int .i64 1] rfl (by (try simp only [List.map_toArray, List.map_cons, List.map_nil]); first | done | rfl | (simp only [List.length_drop, List.length_take]; rfl)) ?_; (with_reducible refine (right_Has.calls k _ _ t239 1 0 1 t243 t244 _ ?side1 ?side2 A2.out).mono ?_); (case side1 => repeat (first | exact (Kd.R_reads' HO241.out).2.2 | (with_reducible refine Kd.C_alloc ?_ _) | (with_reducible refine Kd.C_drewN ?_ _) | (with_reducible refine Kd.C_drew ?_))); (case side2 => exact (Kd.R_reads' HO241.out).2.1); rintro e w14 ⟨rfl, hb⟩; refine ⟨_, rfl, ?_⟩; have n0_ := Aside0.mk (Kd.R_below (by (with_reducible repeat (first | apply Kd.R_alloc | apply Kd.R_drewN | apply Kd.R_drew)); exact HO241.out) hb); have n1_ := Aside0.mk (below_step (by repeat (first | (with_reducible first | exact HB.out | apply below_alloc | apply pw_below_drewN | apply below_drew1) | exact HB.out)) hb); clear HO241; clear HB; have HO241 := n0_; have HB := n1_; clear n0_ n1_; (try clear hb); (try clear hb2); (try clear hk); (try clear hi)))
   go_ret
   exact ⟨by first | rfl | (simp [errW_none, errW_some] <;> rfl) | (simp [*, errW_none, errW_some] <;> rfl), by repeat (first | (with_reducible first | exact HB.out | apply below_alloc | apply pw_below_drewN | apply below_drew1) | exact HB.out)⟩
 ·rw [if_neg c3] at H
  have c3b0 : (t242 == 0) = false := beq_eq_false_iff_ne.mpr c3
  have c3b1 : (t242 != 0) = true := bne_iff_ne.mpr c3
  obtain rfl := Option.some.inj H
  go_enter Try.func10, Try.ntmps10
  go_wp2_with (first | ((with_reducible refine gate_callee (f := 16) rfl ?_); refine goesL_ (some 7) rfl rfl Try.func16 (by kernel_rfl) rfl #[.slice none 0 0, .agg #[.int .i64 0, .int .i64 1, .int .i64 0, .int .i64 1, .bool false]] rfl (by (try simp only [List.map_toArray, List.map_cons, List.map_nil]); first | done | rfl | (simp only [List.length_drop, List.length_take]; rfl)) ?_; (refine (right_Give.calls k _ _ ([] : List (S28)) 0 1 0 1 false t239 t242 _ ?side1 ?side2 A1.out).mono ?_); (case side1 => exact Kd.C_nil _ _); (case side2 => exact Nat.le_refl _); rintro e w15 ⟨v240, rfl, ho0, hb⟩; refine ⟨_, rfl, ?_⟩; have n0_ := Aside0.mk (Kd.R_lower ho0 (below_size (by repeat (first | (with_reducible first | exact HB.out | apply below_alloc | apply pw_below_drewN | apply below_drew1) | exact HB.out)))); have n1_ := Aside0.mk (below_step (by repeat (first | (with_reducible first | exact HB.out | apply below_alloc | apply pw_below_drewN | apply below_drew1) | exact HB.out)) hb); clear HB; have HO241 := n0_; have HB := n1_; clear n0_ n1_; (try clear hb); (try clear hb2); (try clear hk); (try clear hi); (try clear ho0); obtain ⟨Ao16, co16, eo16⟩ := Kd.R_slice HO241.out; subst eo16) | ((with_reducible refine gate_callee (f := 13) rfl ?_); refine goesL_ (some 12) rfl rfl Try.func13 (by kernel_rfl) rfl #[.slice Ao16 t239.length co16, .int .i64 1, .int .i64 0, .int .i64 1] rfl (by (try simp only [List.map_toArray, List.map_cons, List.map_nil]); first | done | rfl | (simp only [List.length_drop, List.length_take]; rfl)) ?_; (with_reducible refine (right_Has.calls k _ _ t239 1 0 1 t243 t244 _ ?side1 ?side2 A2.out).mono ?_); (case side1 => repeat (first | exact (Kd.R_reads' HO241.out).2.2 | (with_reducible refine Kd.C_alloc ?_ _) | (with_reducible refine Kd.C_drewN ?_ _) | (with_reducible refine Kd.C_drew ?_))); (case side2 => exact (Kd.R_reads' HO241.out).2.1); rintro e w17 ⟨rfl, hb⟩; refine ⟨_, rfl, ?_⟩; have n0_ := Aside0.mk (Kd.R_below (by (with_reducible repeat (first | apply Kd.R_alloc | apply Kd.R_drewN | apply Kd.R_drew)); exact HO241.out) hb); have n1_ := Aside0.mk (below_step (by repeat (first | (with_reducible first | exact HB.out | apply below_alloc | apply pw_below_drewN | apply below_drew1) | exact HB.out)) hb); clear HO241; clear HB; have HO241 := n0_; have HB := n1_; clear n0_ n1_; (try clear hb); (try clear hb2); (try clear hk); (try clear hi)))
  go_ret
  exact ⟨by first | rfl | (simp [errW_none, errW_some] <;> rfl) | (simp [*, errW_none, errW_some] <;> rfl), by repeat (first | (with_reducible first | exact HB.out | apply below_alloc | apply pw_below_drewN | apply below_drew1) | exact HB.out)⟩

/-! ### chirographkeep_TakeLess: function 3 -/
def chirographkeep_TakeLess.f (k : Nat) (l0 : List (S40)) (a1 : Int) (a2 : Int) (a3 : Int) (a4 : Int) : Option (Bool) := (chirographkeep_rights.f k l0).bind fun bt245 => (if (bt245.1.length : Int) = 0 then (if bt245.2 = true then ((chirographkeep_rightTells.f k).bind fun t249 => (some t249)) else (some false)) else ((chirographkeep_picked.f a1 (bt245.1.length : Int)).bind fun t250 => (if 0 ≤ t250 then (if t250 < (bt245.1.length : Int) then ((right_Take.f k bt245.1 ((rd_T28 bt245.1 t250).f0) ((rd_T28 bt245.1 t250).f1) ((rd_T28 bt245.1 t250).f2) ((rd_T28 bt245.1 t250).f3) ((rd_T28 bt245.1 t250).f4)).bind fun bt253 => ((chirographkeep_picked.f a2 3).bind fun t257 => ((chirographkeep_picked.f a3 12).bind fun t258 => ((chirographkeep_picked.f a4 2).bind fun t259 => ((right_Has.f k bt245.1 t257 t258 (wrap64 (1 + t259))).bind fun bt260 => ((right_Has.f k bt253.1 t257 t258 (wrap64 (1 + t259))).bind fun bt262 => ((right_Take.f k bt253.1 ((rd_T28 bt245.1 t250).f0) ((rd_T28 bt245.1 t250).f1) ((rd_T28 bt245.1 t250).f2) ((rd_T28 bt245.1 t250).f3) ((rd_T28 bt245.1 t250).f4)).bind fun bt264 => ((chirographkeep_rightTells.f k).bind fun t268 => (if t268 = true then (if bt245.2 = true then (if bt253.2 = 0 then (if bt260.2 = 0 then (if bt262.2 = 0 then (if bt260.1 = true then (if bt264.2 = 5 then ((right_Check.f k bt253.1).bind fun t269 => (if t269 = 0 then (some (decide ((bt253.1.length : Int) < (bt245.1.length : Int)))) else (some false))) else (some false)) else (if bt262.1 = true then (some false) else (if bt264.2 = 5 then ((right_Check.f k bt253.1).bind fun t270 => (if t270 = 0 then (some (decide ((bt253.1.length : Int) < (bt245.1.length : Int)))) else (some false))) else (some false)))) else (some false)) else (some false)) else (some false)) else (some false)) else (some false)))))))))) else (none)) else (none))))
theorem chirographkeep_TakeLess.mono : ∀ a0 a1 a2 a3 a4 k, LeO (chirographkeep_TakeLess.f k a0 a1 a2 a3 a4) (chirographkeep_TakeLess.f (k + 1) a0 a1 a2 a3 a4) := by
 intro a0 a1 a2 a3 a4 k
 unfold chirographkeep_TakeLess.f
 repeat' first
   | (with_reducible exact chirographkeep_rightTells.mono _)
   | (with_reducible exact chirographkeep_rights.mono _ _)
   | (with_reducible exact right_Check.mono _ _)
   | (with_reducible exact right_Has.mono _ _ _ _ _)
   | (with_reducible exact right_Take.mono _ _ _ _ _ _ _)
   | (with_reducible exact LeO.refl _)
   | (with_reducible exact LeO.none _)
   | (with_reducible refine LeO.ite ?_ ?_)
   | (with_reducible refine LeO.bind ?_ (fun _ => ?_))
   | exact chirographkeep_rightTells.mono _
   | exact chirographkeep_rights.mono _ _
   | exact right_Check.mono _ _
   | exact right_Has.mono _ _ _ _ _
   | exact right_Take.mono _ _ _ _ _ _ _
   | exact LeO.none _
   | refine LeO.ite ?_ ?_
   | refine LeO.bind ?_ (fun _ => ?_)
set_option maxHeartbeats 8000000 in
set_option maxRecDepth 100000 in
theorem chirographkeep_TakeLess.calls (k : Nat) (A0 : Option Addr) (c0 : Nat) (l0 : List (S40)) (a1 : Int) (a2 : Int) (a3 : Int) (a4 : Int) (r : Bool) (w : World) (hr0 : Kd.C k40 w A0 l0.length l0) (hc0 : l0.length ≤ c0) (h : chirographkeep_TakeLess.f k l0 a1 a2 a3 a4 = some r) (hr_ : r = true) :
  Calls Try.prog 3 #[.slice A0 l0.length c0, .int .i64 a1, .int .i64 a2, .int .i64 a3, .int .i64 a4] w fun e w' => e = .returned (.bool r) ∧ Below w.heap.size w w' := by
 have hu28 := Try.underlying28
 have HR0 := Aside0.mk hr0
 have HC0 := Aside0.mk hc0
 clear hr0 hc0
 have HB := Aside0.mk (Below.refl w.heap.size w)
 have H : ((chirographkeep_rights.f k l0).bind fun bt245 => (if (bt245.1.length : Int) = 0 then (if bt245.2 = true then ((chirographkeep_rightTells.f k).bind fun t249 => (some t249)) else (some false)) else ((chirographkeep_picked.f a1 (bt245.1.length : Int)).bind fun t250 => (if 0 ≤ t250 then (if t250 < (bt245.1.length : Int) then ((right_Take.f k bt245.1 ((rd_T28 bt245.1 t250).f0) ((rd_T28 bt245.1 t250).f1) ((rd_T28 bt245.1 t250).f2) ((rd_T28 bt245.1 t250).f3) ((rd_T28 bt245.1 t250).f4)).bind fun bt253 => ((chirographkeep_picked.f a2 3).bind fun t257 => ((chirographkeep_picked.f a3 12).bind fun t258 => ((chirographkeep_picked.f a4 2).bind fun t259 => ((right_Has.f k bt245.1 t257 t258 (wrap64 (1 + t259))).bind fun bt260 => ((right_Has.f k bt253.1 t257 t258 (wrap64 (1 + t259))).bind fun bt262 => ((right_Take.f k bt253.1 ((rd_T28 bt245.1 t250).f0) ((rd_T28 bt245.1 t250).f1) ((rd_T28 bt245.1 t250).f2) ((rd_T28 bt245.1 t250).f3) ((rd_T28 bt245.1 t250).f4)).bind fun bt264 => ((chirographkeep_rightTells.f k).bind fun t268 => (if t268 = true then (if bt245.2 = true then (if bt253.2 = 0 then (if bt260.2 = 0 then (if bt262.2 = 0 then (if bt260.1 = true then (if bt264.2 = 5 then ((right_Check.f k bt253.1).bind fun t269 => (if t269 = 0 then (some (decide ((bt253.1.length : Int) < (bt245.1.length : Int)))) else (some false))) else (some false)) else (if bt262.1 = true then (some false) else (if bt264.2 = 5 then ((right_Check.f k bt253.1).bind fun t270 => (if t270 = 0 then (some (decide ((bt253.1.length : Int) < (bt245.1.length : Int)))) else (some false))) else (some false)))) else (some false)) else (some false)) else (some false)) else (some false)) else (some false)))))))))) else (none)) else (none))))) = some r := h
 clear h
 replace H := Option.bind_eq_some_iff.mp H
 obtain ⟨⟨t245, t246⟩, A60, H⟩ := H
 replace H : (if (t245.length : Int) = 0 then (if t246 = true then ((chirographkeep_rightTells.f k).bind fun t249 => (some t249)) else (some false)) else ((chirographkeep_picked.f a1 (t245.length : Int)).bind fun t250 => (if 0 ≤ t250 then (if t250 < (t245.length : Int) then ((right_Take.f k t245 ((rd_T28 t245 t250).f0) ((rd_T28 t245 t250).f1) ((rd_T28 t245 t250).f2) ((rd_T28 t245 t250).f3) ((rd_T28 t245 t250).f4)).bind fun bt253 => ((chirographkeep_picked.f a2 3).bind fun t257 => ((chirographkeep_picked.f a3 12).bind fun t258 => ((chirographkeep_picked.f a4 2).bind fun t259 => ((right_Has.f k t245 t257 t258 (wrap64 (1 + t259))).bind fun bt260 => ((right_Has.f k bt253.1 t257 t258 (wrap64 (1 + t259))).bind fun bt262 => ((right_Take.f k bt253.1 ((rd_T28 t245 t250).f0) ((rd_T28 t245 t250).f1) ((rd_T28 t245 t250).f2) ((rd_T28 t245 t250).f3) ((rd_T28 t245 t250).f4)).bind fun bt264 => ((chirographkeep_rightTells.f k).bind fun t268 => (if t268 = true then (if t246 = true then (if bt253.2 = 0 then (if bt260.2 = 0 then (if bt262.2 = 0 then (if bt260.1 = true then (if bt264.2 = 5 then ((right_Check.f k bt253.1).bind fun t269 => (if t269 = 0 then (some (decide ((bt253.1.length : Int) < (t245.length : Int)))) else (some false))) else (some false)) else (if bt262.1 = true then (some false) else (if bt264.2 = 5 then ((right_Check.f k bt253.1).bind fun t270 => (if t270 = 0 then (some (decide ((bt253.1.length : Int) < (t245.length : Int)))) else (some false))) else (some false)))) else (some false)) else (some false)) else (some false)) else (some false)) else (some false)))))))))) else (none)) else (none)))) = some r := H
 have A6 := Aside0.mk A60
 clear A60
 by_cases c7 : (t245.length : Int) = 0
 ·rw [if_pos c7] at H
  have c7b0 : ((t245.length : Int) == 0) = true := beq_iff_eq.mpr c7
  have c7b1 : ((t245.length : Int) != 0) = false := bne_eq_false_iff_eq.mpr c7
  clear c7
  by_cases c8 : t246 = true
  ·subst c8
   have H1 : ((chirographkeep_rightTells.f k).bind fun t249 => (some t249)) = some r := by rw [if_pos rfl] at H; exact H
   clear H
   have H := H1
   clear H1
   replace H := Option.bind_eq_some_iff.mp H
   obtain ⟨t249, A90, H⟩ := H
   replace H : (some t249) = some r := H
   have A9 := Aside0.mk A90
   clear A90
   obtain rfl := Option.some.inj H
   go_enter Try.func3, Try.ntmps3
   go_wp2_with (first | ((with_reducible refine gate_callee (f := 9) rfl ?_); refine goesL_ (some 27) rfl rfl Try.func9 (by kernel_rfl) rfl #[.slice A0 l0.length c0] rfl (by (try simp only [List.map_toArray, List.map_cons, List.map_nil]); first | done | rfl | (simp only [List.length_drop, List.length_take]; rfl)) ?_; (with_reducible refine (chirographkeep_rights.calls k _ _ l0 t245 true _ ?side1 ?side2 A6.out).mono ?_); (case side1 => repeat (first | exact HR0.out | (with_reducible refine Kd.C_alloc ?_ _) | (with_reducible refine Kd.C_drewN ?_ _) | (with_reducible refine Kd.C_drew ?_))); (case side2 => exact HC0.out); rintro e w10 ⟨v247, rfl, ho0, hb⟩; refine ⟨_, rfl, ?_⟩; have n0_ := Aside0.mk (Kd.R_lower ho0 (below_size (by repeat (first | (with_reducible first | exact HB.out | apply below_alloc | apply pw_below_drewN | apply below_drew1) | exact HB.out)))); have n1_ := Aside0.mk (below_step (by repeat (first | (with_reducible first | exact HB.out | apply below_alloc | apply pw_below_drewN | apply below_drew1) | exact HB.out)) hb); clear HB; have HO248 := n0_; have HB := n1_; clear n0_ n1_; (try clear hb); (try clear hb2); (try clear hk); (try clear hi); (try clear ho0); obtain ⟨Ao11, co11, eo11⟩ := Kd.R_slice HO248.out; subst eo11) | (go_at_call 10; (with_reducible refine (chirographkeep_rightTells.calls k  t249 _ A9.out).mono ?_); rintro e w12 ⟨rfl, hb⟩; have n0_ := Aside0.mk (Kd.R_below (by (with_reducible repeat (first | apply Kd.R_alloc | apply Kd.R_drewN | apply Kd.R_drew)); exact HO248.out) hb); have n1_ := Aside0.mk (below_step (by repeat (first | (with_reducible first | exact HB.out | apply below_alloc | apply pw_below_drewN | apply below_drew1) | exact HB.out)) hb); clear HO248; clear HB; have HO248 := n0_; have HB := n1_; clear n0_ n1_; (try clear hb); (try clear hb2); (try clear hk); (try clear hi)))
   go_ret
   exact ⟨by first | rfl | (simp [errW_none, errW_some] <;> rfl) | (simp [*, errW_none, errW_some] <;> rfl), by repeat (first | (with_reducible first | exact HB.out | apply below_alloc | apply pw_below_drewN | apply below_drew1) | exact HB.out)⟩
  ·replace c8 := Bool.eq_false_iff.mpr c8
   subst c8
   have H1 : (some false) = some r := by rw [if_neg (show ¬ (false = true) by decide)] at H; exact H
   clear H
   have H := H1
   clear H1
   exact absurd (Option.some.inj H) (by rw [hr_]; decide)
 ·rw [if_neg c7] at H
  have c7b0 : ((t245.length : Int) == 0) = false := beq_eq_false_iff_ne.mpr c7
  have c7b1 : ((t245.length : Int) != 0) = true := bne_iff_ne.mpr c7
  have c7b2 : ¬ (t245 = []) := fun h_ => c7 (by rw [h_]; rfl)
  replace H := Option.bind_eq_some_iff.mp H
  obtain ⟨t250, A130, H⟩ := H
  replace H : (if 0 ≤ t250 then (if t250 < (t245.length : Int) then ((right_Take.f k t245 ((rd_T28 t245 t250).f0) ((rd_T28 t245 t250).f1) ((rd_T28 t245 t250).f2) ((rd_T28 t245 t250).f3) ((rd_T28 t245 t250).f4)).bind fun bt253 => ((chirographkeep_picked.f a2 3).bind fun t257 => ((chirographkeep_picked.f a3 12).bind fun t258 => ((chirographkeep_picked.f a4 2).bind fun t259 => ((right_Has.f k t245 t257 t258 (wrap64 (1 + t259))).bind fun bt260 => ((right_Has.f k bt253.1 t257 t258 (wrap64 (1 + t259))).bind fun bt262 => ((right_Take.f k bt253.1 ((rd_T28 t245 t250).f0) ((rd_T28 t245 t250).f1) ((rd_T28 t245 t250).f2) ((rd_T28 t245 t250).f3) ((rd_T28 t245 t250).f4)).bind fun bt264 => ((chirographkeep_rightTells.f k).bind fun t268 => (if t268 = true then (if t246 = true then (if bt253.2 = 0 then (if bt260.2 = 0 then (if bt262.2 = 0 then (if bt260.1 = true then (if bt264.2 = 5 then ((right_Check.f k bt253.1).bind fun t269 => (if t269 = 0 then (some (decide ((bt253.1.length : Int) < (t245.length : Int)))) else (some false))) else (some false)) else (if bt262.1 = true then (some false) else (if bt264.2 = 5 then ((right_Check.f k bt253.1).bind fun t270 => (if t270 = 0 then (some (decide ((bt253.1.length : Int) < (t245.length : Int)))) else (some false))) else (some false)))) else (some false)) else (some false)) else (some false)) else (some false)) else (some false)))))))))) else (none)) else (none)) = some r := H
  have A13 := Aside0.mk A130
  clear A130
  by_cases c14 : 0 ≤ t250
  ·rw [if_pos c14] at H
   have c14b0 : decide (0 ≤ t250) = true := decide_eq_true c14
   clear c14
   by_cases c15 : t250 < (t245.length : Int)
   ·rw [if_pos c15] at H
    have c15b0 : decide (t250 < (t245.length : Int)) = true := decide_eq_true c15
    clear c15
    replace H := Option.bind_eq_some_iff.mp H
    obtain ⟨⟨t253, t256⟩, A160, H⟩ := H
    replace H : ((chirographkeep_picked.f a2 3).bind fun t257 => ((chirographkeep_picked.f a3 12).bind fun t258 => ((chirographkeep_picked.f a4 2).bind fun t259 => ((right_Has.f k t245 t257 t258 (wrap64 (1 + t259))).bind fun bt260 => ((right_Has.f k t253 t257 t258 (wrap64 (1 + t259))).bind fun bt262 => ((right_Take.f k t253 ((rd_T28 t245 t250).f0) ((rd_T28 t245 t250).f1) ((rd_T28 t245 t250).f2) ((rd_T28 t245 t250).f3) ((rd_T28 t245 t250).f4)).bind fun bt264 => ((chirographkeep_rightTells.f k).bind fun t268 => (if t268 = true then (if t246 = true then (if t256 = 0 then (if bt260.2 = 0 then (if bt262.2 = 0 then (if bt260.1 = true then (if bt264.2 = 5 then ((right_Check.f k t253).bind fun t269 => (if t269 = 0 then (some (decide ((t253.length : Int) < (t245.length : Int)))) else (some false))) else (some false)) else (if bt262.1 = true then (some false) else (if bt264.2 = 5 then ((right_Check.f k t253).bind fun t270 => (if t270 = 0 then (some (decide ((t253.length : Int) < (t245.length : Int)))) else (some false))) else (some false)))) else (some false)) else (some false)) else (some false)) else (some false)) else (some false))))))))) = some r := H
    have A16 := Aside0.mk A160
    clear A160
    replace H := Option.bind_eq_some_iff.mp H
    obtain ⟨t257, A170, H⟩ := H
    replace H : ((chirographkeep_picked.f a3 12).bind fun t258 => ((chirographkeep_picked.f a4 2).bind fun t259 => ((right_Has.f k t245 t257 t258 (wrap64 (1 + t259))).bind fun bt260 => ((right_Has.f k t253 t257 t258 (wrap64 (1 + t259))).bind fun bt262 => ((right_Take.f k t253 ((rd_T28 t245 t250).f0) ((rd_T28 t245 t250).f1) ((rd_T28 t245 t250).f2) ((rd_T28 t245 t250).f3) ((rd_T28 t245 t250).f4)).bind fun bt264 => ((chirographkeep_rightTells.f k).bind fun t268 => (if t268 = true then (if t246 = true then (if t256 = 0 then (if bt260.2 = 0 then (if bt262.2 = 0 then (if bt260.1 = true then (if bt264.2 = 5 then ((right_Check.f k t253).bind fun t269 => (if t269 = 0 then (some (decide ((t253.length : Int) < (t245.length : Int)))) else (some false))) else (some false)) else (if bt262.1 = true then (some false) else (if bt264.2 = 5 then ((right_Check.f k t253).bind fun t270 => (if t270 = 0 then (some (decide ((t253.length : Int) < (t245.length : Int)))) else (some false))) else (some false)))) else (some false)) else (some false)) else (some false)) else (some false)) else (some false)))))))) = some r := H
    have A17 := Aside0.mk A170
    clear A170
    replace H := Option.bind_eq_some_iff.mp H
    obtain ⟨t258, A180, H⟩ := H
    replace H : ((chirographkeep_picked.f a4 2).bind fun t259 => ((right_Has.f k t245 t257 t258 (wrap64 (1 + t259))).bind fun bt260 => ((right_Has.f k t253 t257 t258 (wrap64 (1 + t259))).bind fun bt262 => ((right_Take.f k t253 ((rd_T28 t245 t250).f0) ((rd_T28 t245 t250).f1) ((rd_T28 t245 t250).f2) ((rd_T28 t245 t250).f3) ((rd_T28 t245 t250).f4)).bind fun bt264 => ((chirographkeep_rightTells.f k).bind fun t268 => (if t268 = true then (if t246 = true then (if t256 = 0 then (if bt260.2 = 0 then (if bt262.2 = 0 then (if bt260.1 = true then (if bt264.2 = 5 then ((right_Check.f k t253).bind fun t269 => (if t269 = 0 then (some (decide ((t253.length : Int) < (t245.length : Int)))) else (some false))) else (some false)) else (if bt262.1 = true then (some false) else (if bt264.2 = 5 then ((right_Check.f k t253).bind fun t270 => (if t270 = 0 then (some (decide ((t253.length : Int) < (t245.length : Int)))) else (some false))) else (some false)))) else (some false)) else (some false)) else (some false)) else (some false)) else (some false))))))) = some r := H
    have A18 := Aside0.mk A180
    clear A180
    replace H := Option.bind_eq_some_iff.mp H
    obtain ⟨t259, A190, H⟩ := H
    replace H : ((right_Has.f k t245 t257 t258 (wrap64 (1 + t259))).bind fun bt260 => ((right_Has.f k t253 t257 t258 (wrap64 (1 + t259))).bind fun bt262 => ((right_Take.f k t253 ((rd_T28 t245 t250).f0) ((rd_T28 t245 t250).f1) ((rd_T28 t245 t250).f2) ((rd_T28 t245 t250).f3) ((rd_T28 t245 t250).f4)).bind fun bt264 => ((chirographkeep_rightTells.f k).bind fun t268 => (if t268 = true then (if t246 = true then (if t256 = 0 then (if bt260.2 = 0 then (if bt262.2 = 0 then (if bt260.1 = true then (if bt264.2 = 5 then ((right_Check.f k t253).bind fun t269 => (if t269 = 0 then (some (decide ((t253.length : Int) < (t245.length : Int)))) else (some false))) else (some false)) else (if bt262.1 = true then (some false) else (if bt264.2 = 5 then ((right_Check.f k t253).bind fun t270 => (if t270 = 0 then (some (decide ((t253.length : Int) < (t245.length : Int)))) else (some false))) else (some false)))) else (some false)) else (some false)) else (some false)) else (some false)) else (some false)))))) = some r := H
    have A19 := Aside0.mk A190
    clear A190
    replace H := Option.bind_eq_some_iff.mp H
    obtain ⟨⟨t260, t261⟩, A200, H⟩ := H
    replace H : ((right_Has.f k t253 t257 t258 (wrap64 (1 + t259))).bind fun bt262 => ((right_Take.f k t253 ((rd_T28 t245 t250).f0) ((rd_T28 t245 t250).f1) ((rd_T28 t245 t250).f2) ((rd_T28 t245 t250).f3) ((rd_T28 t245 t250).f4)).bind fun bt264 => ((chirographkeep_rightTells.f k).bind fun t268 => (if t268 = true then (if t246 = true then (if t256 = 0 then (if t261 = 0 then (if bt262.2 = 0 then (if t260 = true then (if bt264.2 = 5 then ((right_Check.f k t253).bind fun t269 => (if t269 = 0 then (some (decide ((t253.length : Int) < (t245.length : Int)))) else (some false))) else (some false)) else (if bt262.1 = true then (some false) else (if bt264.2 = 5 then ((right_Check.f k t253).bind fun t270 => (if t270 = 0 then (some (decide ((t253.length : Int) < (t245.length : Int)))) else (some false))) else (some false)))) else (some false)) else (some false)) else (some false)) else (some false)) else (some false))))) = some r := H
    have A20 := Aside0.mk A200
    clear A200
    replace H := Option.bind_eq_some_iff.mp H
    obtain ⟨⟨t262, t263⟩, A210, H⟩ := H
    replace H : ((right_Take.f k t253 ((rd_T28 t245 t250).f0) ((rd_T28 t245 t250).f1) ((rd_T28 t245 t250).f2) ((rd_T28 t245 t250).f3) ((rd_T28 t245 t250).f4)).bind fun bt264 => ((chirographkeep_rightTells.f k).bind fun t268 => (if t268 = true then (if t246 = true then (if t256 = 0 then (if t261 = 0 then (if t263 = 0 then (if t260 = true then (if bt264.2 = 5 then ((right_Check.f k t253).bind fun t269 => (if t269 = 0 then (some (decide ((t253.length : Int) < (t245.length : Int)))) else (some false))) else (some false)) else (if t262 = true then (some false) else (if bt264.2 = 5 then ((right_Check.f k t253).bind fun t270 => (if t270 = 0 then (some (decide ((t253.length : Int) < (t245.length : Int)))) else (some false))) else (some false)))) else (some false)) else (some false)) else (some false)) else (some false)) else (some false)))) = some r := H
    have A21 := Aside0.mk A210
    clear A210
    replace H := Option.bind_eq_some_iff.mp H
    obtain ⟨⟨t264, t267⟩, A220, H⟩ := H
    replace H : ((chirographkeep_rightTells.f k).bind fun t268 => (if t268 = true then (if t246 = true then (if t256 = 0 then (if t261 = 0 then (if t263 = 0 then (if t260 = true then (if t267 = 5 then ((right_Check.f k t253).bind fun t269 => (if t269 = 0 then (some (decide ((t253.length : Int) < (t245.length : Int)))) else (some false))) else (some false)) else (if t262 = true then (some false) else (if t267 = 5 then ((right_Check.f k t253).bind fun t270 => (if t270 = 0 then (some (decide ((t253.length : Int) < (t245.length : Int)))) else (some false))) else (some false)))) else (some false)) else (some false)) else (some false)) else (some false)) else (some false))) = some r := H
    have A22 := Aside0.mk A220
    clear A220
    replace H := Option.bind_eq_some_iff.mp H
    obtain ⟨t268, A230, H⟩ := H
    replace H : (if t268 = true then (if t246 = true then (if t256 = 0 then (if t261 = 0 then (if t263 = 0 then (if t260 = true then (if t267 = 5 then ((right_Check.f k t253).bind fun t269 => (if t269 = 0 then (some (decide ((t253.length : Int) < (t245.length : Int)))) else (some false))) else (some false)) else (if t262 = true then (some false) else (if t267 = 5 then ((right_Check.f k t253).bind fun t270 => (if t270 = 0 then (some (decide ((t253.length : Int) < (t245.length : Int)))) else (some false))) else (some false)))) else (some false)) else (some false)) else (some false)) else (some false)) else (some false)) = some r := H
    have A23 := Aside0.mk A230
    clear A230
    by_cases c24 : t268 = true
    ·subst c24
     have H1 : (if t246 = true then (if t256 = 0 then (if t261 = 0 then (if t263 = 0 then (if t260 = true then (if t267 = 5 then ((right_Check.f k t253).bind fun t269 => (if t269 = 0 then (some (decide ((t253.length : Int) < (t245.length : Int)))) else (some false))) else (some false)) else (if t262 = true then (some false) else (if t267 = 5 then ((right_Check.f k t253).bind fun t270 => (if t270 = 0 then (some (decide ((t253.length : Int) < (t245.length : Int)))) else (some false))) else (some false)))) else (some false)) else (some false)) else (some false)) else (some false)) = some r := by rw [if_pos rfl] at H; exact H
     clear H
     have H := H1
     clear H1
     by_cases c25 : t246 = true
     ·subst c25
      have H1 : (if t256 = 0 then (if t261 = 0 then (if t263 = 0 then (if t260 = true then (if t267 = 5 then ((right_Check.f k t253).bind fun t269 => (if t269 = 0 then (some (decide ((t253.length : Int) < (t245.length : Int)))) else (some false))) else (some false)) else (if t262 = true then (some false) else (if t267 = 5 then ((right_Check.f k t253).bind fun t270 => (if t270 = 0 then (some (decide ((t253.length : Int) < (t245.length : Int)))) else (some false))) else (some false)))) else (some false)) else (some false)) else (some false)) = some r := by rw [if_pos rfl] at H; exact H
      clear H
      have H := H1
      clear H1
      by_cases c26 : t256 = 0
      ·rw [if_pos c26] at H
       have c26b0 : (t256 == 0) = true := beq_iff_eq.mpr c26
       have c26b1 : (t256 != 0) = false := bne_eq_false_iff_eq.mpr c26
       clear c26
       by_cases c27 : t261 = 0
       ·rw [if_pos c27] at H
        have c27b0 : (t261 == 0) = true := beq_iff_eq.mpr c27
        have c27b1 : (t261 != 0) = false := bne_eq_false_iff_eq.mpr c27
        clear c27
        by_cases c28 : t263 = 0
        ·rw [if_pos c28] at H
         have c28b0 : (t263 == 0) = true := beq_iff_eq.mpr c28
         have c28b1 : (t263 != 0) = false := bne_eq_false_iff_eq.mpr c28
         clear c28
         by_cases c29 : t260 = true
         ·subst c29
          have H1 : (if t267 = 5 then ((right_Check.f k t253).bind fun t269 => (if t269 = 0 then (some (decide ((t253.length : Int) < (t245.length : Int)))) else (some false))) else (some false)) = some r := by rw [if_pos rfl] at H; exact H
          clear H
          have H := H1
          clear H1
          by_cases c30 : t267 = 5
          ·rw [if_pos c30] at H
           have c30b0 : (t267 == 5) = true := beq_iff_eq.mpr c30
           have c30b1 : (t267 != 5) = false := bne_eq_false_iff_eq.mpr c30
           clear c30
           replace H := Option.bind_eq_some_iff.mp H
           obtain ⟨t269, A310, H⟩ := H
           replace H : (if t269 = 0 then (some (decide ((t253.length : Int) < (t245.length : Int)))) else (some false)) = some r := H
           have A31 := Aside0.mk A310
           clear A310
           by_cases c32 : t269 = 0
           ·rw [if_pos c32] at H
            have c32b0 : (t269 == 0) = true := beq_iff_eq.mpr c32
            have c32b1 : (t269 != 0) = false := bne_eq_false_iff_eq.mpr c32
            clear c32
            obtain rfl := Option.some.inj H
            go_enter Try.func3, Try.ntmps3
            go_wp2_with (first | ((with_reducible refine gate_callee (f := 9) rfl ?_); refine goesL_ (some 27) rfl rfl Try.func9 (by kernel_rfl) rfl #[.slice A0 l0.length c0] rfl (by (try simp only [List.map_toArray, List.map_cons, List.map_nil]); first | done | rfl | (simp only [List.length_drop, List.length_take]; rfl)) ?_; (with_reducible refine (chirographkeep_rights.calls k _ _ l0 t245 true _ ?side1 ?side2 A6.out).mono ?_); (case side1 => repeat (first | exact HR0.out | (with_reducible refine Kd.C_alloc ?_ _) | (with_reducible refine Kd.C_drewN ?_ _) | (with_reducible refine Kd.C_drew ?_))); (case side2 => exact HC0.out); rintro e w33 ⟨v247, rfl, ho0, hb⟩; refine ⟨_, rfl, ?_⟩; have n0_ := Aside0.mk (Kd.R_lower ho0 (below_size (by repeat (first | (with_reducible first | exact HB.out | apply below_alloc | apply pw_below_drewN | apply below_drew1) | exact HB.out)))); have n1_ := Aside0.mk (below_step (by repeat (first | (with_reducible first | exact HB.out | apply below_alloc | apply pw_below_drewN | apply below_drew1) | exact HB.out)) hb); clear HB; have HO248 := n0_; have HB := n1_; clear n0_ n1_; (try clear hb); (try clear hb2); (try clear hk); (try clear hi); (try clear ho0); obtain ⟨Ao34, co34, eo34⟩ := Kd.R_slice HO248.out; subst eo34) | ((with_reducible refine gate_callee (f := 11) rfl ?_); refine goesL_ (some 41) rfl rfl Try.func11 (by kernel_rfl) rfl #[.int .i64 a1, .int .i64 (t245.length : Int)] rfl (by (try simp only [List.map_toArray, List.map_cons, List.map_nil]); first | done | rfl | (simp only [List.length_drop, List.length_take]; rfl)) ?_; (with_reducible refine (chirographkeep_picked.calls a1 (t245.length : Int) t250 _ A13.out).mono ?_); rintro e w' ⟨rfl, ⟨nd, rfl⟩⟩; refine ⟨_, rfl, ?_⟩; (try (rw [drewN_self w33]; generalize hq_ : World.drewN w33 _ = w33; have n0_ : Aside0 (Kd.R k28 28 w33 w.heap.size (fun _ => True) (.slice Ao34 t245.length co34) t245) := ⟨by rw [← hq_]; exact (by (with_reducible repeat (first | apply Kd.R_alloc | apply Kd.R_drewN | apply Kd.R_drew)); exact HO248.out)⟩; have n1_ : Aside0 (Below w.heap.size w w33) := ⟨by rw [← hq_]; exact (by repeat (first | (with_reducible first | exact HB.out | apply below_alloc | apply pw_below_drewN | apply below_drew1) | exact HB.out))⟩; clear HO248 HB hq_; have HO248 := n0_; have HB := n1_; clear n0_ n1_)); have p251 : 0 ≤ (t250 : Int) := of_decide_eq_true (by first | (with_reducible assumption) | assumption); have q251 : t250 < (t245.length : Int) := of_decide_eq_true (by first | (with_reducible assumption) | assumption); obtain ⟨ad251, e251, hx251_0, hx251_1, hx251_2, hx251_3, hx251_4⟩ := at_T28 (Kd.R_reads' HO248.out).2.2 t250 p251 q251; cases e251; replace p251 := eq_true p251; replace q251 := eq_true q251) | ((with_reducible refine gate_dst (N := 13) rfl ?_); (try (refine gate_guard (by rfl) ?_; dsimp only)); refine box_event ?hg (N := 13) ?hd (cs := #[.int .i64 0, .int .i64 0, .int .i64 0, .int .i64 0, .bool false]) (t := 28) ?hr ?_; (case hd => rfl); (case hg => rfl); (case hr => first | (go_simp; done) | (go_simp; rfl)); intro gb252 hg w35 hbox hb; have n0_ := Aside0.mk (Kd.R_below (Kd.R_elderB (by (with_reducible repeat (first | apply Kd.R_alloc | apply Kd.R_drewN | apply Kd.R_drew)); exact HO248.out) gb252 (Nat.le_of_eq hg.symm)) hb); have n1_ := Aside0.mk (below_step (by repeat (first | (with_reducible first | exact HB.out | apply below_alloc | apply pw_below_drewN | apply below_drew1) | exact HB.out)) hb); have n2_ := Aside0.mk (hbox); have n3_ := Aside0.mk ((by rw [hg]; exact (below_size (by repeat (first | (with_reducible first | exact HB.out | apply below_alloc | apply pw_below_drewN | apply below_drew1) | exact HB.out))) : w.heap.size ≤ gb252)); have n4_ := Aside0.mk ((by rw [hg]; exact (below_size (by repeat (first | (with_reducible first | exact HB.out | apply below_alloc | apply pw_below_drewN | apply below_drew1) | exact HB.out))) : w.heap.size ≤ gb252)); clear HO248; clear HB; have HO248 := n0_; have HB := n1_; have BK252 := n2_; have GW252 := n3_; have GE252 := n4_; clear n0_ n1_ n2_ n3_ n4_; clear hb hbox hg; have hcz36_0 : w35.cell? ⟨gb252, 0, none⟩ = some (.int .i64 0) := (blk_cell BK252.out 0).trans rfl; have hcz36_1 : w35.cell? ⟨gb252, 1, none⟩ = some (.int .i64 0) := (blk_cell BK252.out 1).trans rfl; have hcz36_2 : w35.cell? ⟨gb252, 2, none⟩ = some (.int .i64 0) := (blk_cell BK252.out 2).trans rfl; have hcz36_3 : w35.cell? ⟨gb252, 3, none⟩ = some (.int .i64 0) := (blk_cell BK252.out 3).trans rfl; have hcz36_4 : w35.cell? ⟨gb252, 4, none⟩ = some (.bool false) := (blk_cell BK252.out 4).trans rfl; have hfz36_0 := blk_frozen BK252.out 0; have hfz36_1 := blk_frozen BK252.out 1; have hfz36_2 := blk_frozen BK252.out 2; have hfz36_3 := blk_frozen BK252.out 3; have hfz36_4 := blk_frozen BK252.out 4) | ((with_reducible refine gate_callee (f := 12) rfl ?_); refine goesL_ (some 47) rfl rfl Try.func12 (by kernel_rfl) rfl #[.slice (some ad251) t245.length co34, .agg #[.int .i64 ((rd_T28 t245 t250).f0), .int .i64 ((rd_T28 t245 t250).f1), .int .i64 ((rd_T28 t245 t250).f2), .int .i64 ((rd_T28 t245 t250).f3), .bool ((rd_T28 t245 t250).f4)]] rfl (by (try simp only [List.map_toArray, List.map_cons, List.map_nil]); first | done | rfl | (simp only [List.length_drop, List.length_take]; rfl)) ?_; (with_reducible refine (right_Take.calls k _ _ t245 ((rd_T28 t245 t250).f0) ((rd_T28 t245 t250).f1) ((rd_T28 t245 t250).f2) ((rd_T28 t245 t250).f3) ((rd_T28 t245 t250).f4) t253 t256 _ ?side1 ?side2 A16.out).mono ?_); (case side1 => refine (Kd.R_reads' (e := 28) (base := w.heap.size) (ok := fun k_ => (True ∧ k_ ≠ gb252)) (n := t245.length) (c := co34) ?_).2.2; exact (by (with_reducible repeat (first | apply Kd.R_alloc | apply Kd.R_drewN | apply Kd.R_drew)); exact (Kd.R_mono (Kd.R_far (p := ⟨gb252, 4, none⟩) (Kd.R_far (p := ⟨gb252, 3, none⟩) (Kd.R_far (p := ⟨gb252, 2, none⟩) (Kd.R_far (p := ⟨gb252, 1, none⟩) (Kd.R_far (p := ⟨gb252, 0, none⟩) (Kd.R_mono HO248.out (fun k_ hk => (⟨hk, hk.2⟩ : _ ∧ k_ ≠ gb252))) (fun _ hk => hk.2) (.int .i64 ((rd_T28 t245 t250).f0))) (fun _ hk => hk.2) (.int .i64 ((rd_T28 t245 t250).f1))) (fun _ hk => hk.2) (.int .i64 ((rd_T28 t245 t250).f2))) (fun _ hk => hk.2) (.int .i64 ((rd_T28 t245 t250).f3))) (fun _ hk => hk.2) (.bool ((rd_T28 t245 t250).f4))) (fun _ h_ => h_.1)))); (case side2 => exact (Kd.R_reads' HO248.out).2.1); rintro e w37 ⟨v254, rfl, ho0, hb⟩; refine ⟨_, rfl, ?_⟩; have n0_ := Aside0.mk (Kd.R_elder' (by (with_reducible repeat (first | apply Kd.R_alloc | apply Kd.R_drewN | apply Kd.R_drew)); exact (Kd.R_mono (Kd.R_far (p := ⟨gb252, 4, none⟩) (Kd.R_far (p := ⟨gb252, 3, none⟩) (Kd.R_far (p := ⟨gb252, 2, none⟩) (Kd.R_far (p := ⟨gb252, 1, none⟩) (Kd.R_far (p := ⟨gb252, 0, none⟩) (Kd.R_mono HO248.out (fun k_ hk => (⟨hk, hk.2⟩ : _ ∧ k_ ≠ gb252))) (fun _ hk => hk.2) (.int .i64 ((rd_T28 t245 t250).f0))) (fun _ hk => hk.2) (.int .i64 ((rd_T28 t245 t250).f1))) (fun _ hk => hk.2) (.int .i64 ((rd_T28 t245 t250).f2))) (fun _ hk => hk.2) (.int .i64 ((rd_T28 t245 t250).f3))) (fun _ hk => hk.2) (.bool ((rd_T28 t245 t250).f4))) (fun _ h_ => h_.1))) (Kd.R_base ho0) hb); have n1_ := Aside0.mk (Kd.R_lower (Kd.R_newB (Kd.R_new' ho0 (Kd.R_lt (by (with_reducible repeat (first | apply Kd.R_alloc | apply Kd.R_drewN | apply Kd.R_drew)); exact (Kd.R_mono (Kd.R_far (p := ⟨gb252, 4, none⟩) (Kd.R_far (p := ⟨gb252, 3, none⟩) (Kd.R_far (p := ⟨gb252, 2, none⟩) (Kd.R_far (p := ⟨gb252, 1, none⟩) (Kd.R_far (p := ⟨gb252, 0, none⟩) (Kd.R_mono HO248.out (fun k_ hk => (⟨hk, hk.2⟩ : _ ∧ k_ ≠ gb252))) (fun _ hk => hk.2) (.int .i64 ((rd_T28 t245 t250).f0))) (fun _ hk => hk.2) (.int .i64 ((rd_T28 t245 t250).f1))) (fun _ hk => hk.2) (.int .i64 ((rd_T28 t245 t250).f2))) (fun _ hk => hk.2) (.int .i64 ((rd_T28 t245 t250).f3))) (fun _ hk => hk.2) (.bool ((rd_T28 t245 t250).f4))) (fun _ h_ => h_.1))))) (g := gb252) (o := .cells #[.int .i64 ((rd_T28 t245 t250).f0), .int .i64 ((rd_T28 t245 t250).f1), .int .i64 ((rd_T28 t245 t250).f2), .int .i64 ((rd_T28 t245 t250).f3), .bool ((rd_T28 t245 t250).f4)] 28 (0, 0)) (by (with_reducible repeat (first | refine blk_drewN ?_ _ | refine blk_drew ?_ | refine blk_alloc ?_ _)); refine blk_put (cs := #[.int .i64 ((rd_T28 t245 t250).f0), .int .i64 ((rd_T28 t245 t250).f1), .int .i64 ((rd_T28 t245 t250).f2), .int .i64 ((rd_T28 t245 t250).f3), .bool false]) ?_ 4 _ rfl; (with_reducible repeat (first | refine blk_drewN ?_ _ | refine blk_drew ?_ | refine blk_alloc ?_ _)); refine blk_put (cs := #[.int .i64 ((rd_T28 t245 t250).f0), .int .i64 ((rd_T28 t245 t250).f1), .int .i64 ((rd_T28 t245 t250).f2), .int .i64 0, .bool false]) ?_ 3 _ rfl; (with_reducible repeat (first | refine blk_drewN ?_ _ | refine blk_drew ?_ | refine blk_alloc ?_ _)); refine blk_put (cs := #[.int .i64 ((rd_T28 t245 t250).f0), .int .i64 ((rd_T28 t245 t250).f1), .int .i64 0, .int .i64 0, .bool false]) ?_ 2 _ rfl; (with_reducible repeat (first | refine blk_drewN ?_ _ | refine blk_drew ?_ | refine blk_alloc ?_ _)); refine blk_put (cs := #[.int .i64 ((rd_T28 t245 t250).f0), .int .i64 0, .int .i64 0, .int .i64 0, .bool false]) ?_ 1 _ rfl; (with_reducible repeat (first | refine blk_drewN ?_ _ | refine blk_drew ?_ | refine blk_alloc ?_ _)); refine blk_put (cs := #[.int .i64 0, .int .i64 0, .int .i64 0, .int .i64 0, .bool false]) ?_ 0 _ rfl; (with_reducible repeat (first | refine blk_drewN ?_ _ | refine blk_drew ?_ | refine blk_alloc ?_ _)); exact BK252.out)) (below_size (by repeat (first | (with_reducible first | exact HB.out | apply below_alloc | apply pw_below_drewN | apply below_drew1 | refine below_set ?_ GE252.out) | exact HB.out)))); have n2_ := Aside0.mk (blk_below (g := gb252) (o := .cells #[.int .i64 ((rd_T28 t245 t250).f0), .int .i64 ((rd_T28 t245 t250).f1), .int .i64 ((rd_T28 t245 t250).f2), .int .i64 ((rd_T28 t245 t250).f3), .bool ((rd_T28 t245 t250).f4)] 28 (0, 0)) (by (with_reducible repeat (first | refine blk_drewN ?_ _ | refine blk_drew ?_ | refine blk_alloc ?_ _)); refine blk_put (cs := #[.int .i64 ((rd_T28 t245 t250).f0), .int .i64 ((rd_T28 t245 t250).f1), .int .i64 ((rd_T28 t245 t250).f2), .int .i64 ((rd_T28 t245 t250).f3), .bool false]) ?_ 4 _ rfl; (with_reducible repeat (first | refine blk_drewN ?_ _ | refine blk_drew ?_ | refine blk_alloc ?_ _)); refine blk_put (cs := #[.int .i64 ((rd_T28 t245 t250).f0), .int .i64 ((rd_T28 t245 t250).f1), .int .i64 ((rd_T28 t245 t250).f2), .int .i64 0, .bool false]) ?_ 3 _ rfl; (with_reducible repeat (first | refine blk_drewN ?_ _ | refine blk_drew ?_ | refine blk_alloc ?_ _)); refine blk_put (cs := #[.int .i64 ((rd_T28 t245 t250).f0), .int .i64 ((rd_T28 t245 t250).f1), .int .i64 0, .int .i64 0, .bool false]) ?_ 2 _ rfl; (with_reducible repeat (first | refine blk_drewN ?_ _ | refine blk_drew ?_ | refine blk_alloc ?_ _)); refine blk_put (cs := #[.int .i64 ((rd_T28 t245 t250).f0), .int .i64 0, .int .i64 0, .int .i64 0, .bool false]) ?_ 1 _ rfl; (with_reducible repeat (first | refine blk_drewN ?_ _ | refine blk_drew ?_ | refine blk_alloc ?_ _)); refine blk_put (cs := #[.int .i64 0, .int .i64 0, .int .i64 0, .int .i64 0, .bool false]) ?_ 0 _ rfl; (with_reducible repeat (first | refine blk_drewN ?_ _ | refine blk_drew ?_ | refine blk_alloc ?_ _)); exact BK252.out) hb); have n3_ := Aside0.mk (below_step (by repeat (first | (with_reducible first | exact HB.out | apply below_alloc | apply pw_below_drewN | apply below_drew1 | refine below_set ?_ GE252.out) | exact HB.out)) hb); clear HO248; clear BK252; clear HB; have HO248 := n0_; have HO255 := n1_; have BK252 := n2_; have HB := n3_; clear n0_ n1_ n2_ n3_; (try clear hb); (try clear hb2); (try clear hk); (try clear hi); (try clear ho0)) | ((with_reducible refine gate_callee (f := 11) rfl ?_); refine goesL_ (some 51) rfl rfl Try.func11 (by kernel_rfl) rfl #[.int .i64 a2, .int .i64 3] rfl (by (try simp only [List.map_toArray, List.map_cons, List.map_nil]); first | done | rfl | (simp only [List.length_drop, List.length_take]; rfl)) ?_; (with_reducible refine (chirographkeep_picked.calls a2 3 t257 _ A17.out).mono ?_); rintro e w' ⟨rfl, ⟨nd, rfl⟩⟩; refine ⟨_, rfl, ?_⟩) | ((with_reducible refine gate_callee (f := 11) rfl ?_); refine goesL_ (some 53) rfl rfl Try.func11 (by kernel_rfl) rfl #[.int .i64 a3, .int .i64 12] rfl (by (try simp only [List.map_toArray, List.map_cons, List.map_nil]); first | done | rfl | (simp only [List.length_drop, List.length_take]; rfl)) ?_; (with_reducible refine (chirographkeep_picked.calls a3 12 t258 _ A18.out).mono ?_); rintro e w' ⟨rfl, ⟨nd, rfl⟩⟩; refine ⟨_, rfl, ?_⟩) | ((with_reducible refine gate_callee (f := 11) rfl ?_); refine goesL_ (some 55) rfl rfl Try.func11 (by kernel_rfl) rfl #[.int .i64 a4, .int .i64 2] rfl (by (try simp only [List.map_toArray, List.map_cons, List.map_nil]); first | done | rfl | (simp only [List.length_drop, List.length_take]; rfl)) ?_; (with_reducible refine (chirographkeep_picked.calls a4 2 t259 _ A19.out).mono ?_); rintro e w' ⟨rfl, ⟨nd, rfl⟩⟩; refine ⟨_, rfl, ?_⟩) | ((with_reducible refine gate_callee (f := 13) rfl ?_); refine goesL_ (some 62) rfl rfl Try.func13 (by kernel_rfl) rfl #[.slice (some ad251) t245.length co34, .int .i64 t257, .int .i64 t258, .int .i64 (wrap64 (1 + t259))] rfl (by (try simp only [List.map_toArray, List.map_cons, List.map_nil]); first | done | rfl | (simp only [List.length_drop, List.length_take]; rfl)) ?_; (with_reducible refine (right_Has.calls k _ _ t245 t257 t258 (wrap64 (1 + t259)) true t261 _ ?side1 ?side2 A20.out).mono ?_); (case side1 => repeat (first | exact (Kd.R_reads' HO248.out).2.2 | (with_reducible refine Kd.C_alloc ?_ _) | (with_reducible refine Kd.C_drewN ?_ _) | (with_reducible refine Kd.C_drew ?_))); (case side2 => exact (Kd.R_reads' HO248.out).2.1); rintro e w38 ⟨rfl, hb⟩; refine ⟨_, rfl, ?_⟩; have n0_ := Aside0.mk (Kd.R_below (by (with_reducible repeat (first | apply Kd.R_alloc | apply Kd.R_drewN | apply Kd.R_drew)); exact HO248.out) hb); have n1_ := Aside0.mk (Kd.R_below (by (with_reducible repeat (first | apply Kd.R_alloc | apply Kd.R_drewN | apply Kd.R_drew)); exact HO255.out) hb); have n2_ := Aside0.mk (blk_below (g := gb252) (o := .cells #[.int .i64 ((rd_T28 t245 t250).f0), .int .i64 ((rd_T28 t245 t250).f1), .int .i64 ((rd_T28 t245 t250).f2), .int .i64 ((rd_T28 t245 t250).f3), .bool ((rd_T28 t245 t250).f4)] 28 (0, 0)) (by (with_reducible repeat (first | refine blk_drewN ?_ _ | refine blk_drew ?_ | refine blk_alloc ?_ _)); exact BK252.out) hb); have n3_ := Aside0.mk (below_step (by repeat (first | (with_reducible first | exact HB.out | apply below_alloc | apply pw_below_drewN | apply below_drew1 | refine below_set ?_ GE252.out) | exact HB.out)) hb); clear HO248; clear HO255; clear BK252; clear HB; have HO248 := n0_; have HO255 := n1_; have BK252 := n2_; have HB := n3_; clear n0_ n1_ n2_ n3_; (try clear hb); (try clear hb2); (try clear hk); (try clear hi); obtain ⟨Ao39, co39, eo39⟩ := Kd.R_slice HO255.out; subst eo39) | ((with_reducible refine gate_callee (f := 13) rfl ?_); refine goesL_ (some 70) rfl rfl Try.func13 (by kernel_rfl) rfl #[.slice Ao39 t253.length co39, .int .i64 t257, .int .i64 t258, .int .i64 (wrap64 (1 + t259))] rfl (by (try simp only [List.map_toArray, List.map_cons, List.map_nil]); first | done | rfl | (simp only [List.length_drop, List.length_take]; rfl)) ?_; (with_reducible refine (right_Has.calls k _ _ t253 t257 t258 (wrap64 (1 + t259)) t262 t263 _ ?side1 ?side2 A21.out).mono ?_); (case side1 => repeat (first | exact (Kd.R_reads' HO255.out).2.2 | (with_reducible refine Kd.C_alloc ?_ _) | (with_reducible refine Kd.C_drewN ?_ _) | (with_reducible refine Kd.C_drew ?_))); (case side2 => exact (Kd.R_reads' HO255.out).2.1); rintro e w40 ⟨rfl, hb⟩; refine ⟨_, rfl, ?_⟩; have n0_ := Aside0.mk (Kd.R_below (by (with_reducible repeat (first | apply Kd.R_alloc | apply Kd.R_drewN | apply Kd.R_drew)); exact HO248.out) hb); have n1_ := Aside0.mk (Kd.R_below (by (with_reducible repeat (first | apply Kd.R_alloc | apply Kd.R_drewN | apply Kd.R_drew)); exact HO255.out) hb); have n2_ := Aside0.mk (blk_below (g := gb252) (o := .cells #[.int .i64 ((rd_T28 t245 t250).f0), .int .i64 ((rd_T28 t245 t250).f1), .int .i64 ((rd_T28 t245 t250).f2), .int .i64 ((rd_T28 t245 t250).f3), .bool ((rd_T28 t245 t250).f4)] 28 (0, 0)) (by (with_reducible repeat (first | refine blk_drewN ?_ _ | refine blk_drew ?_ | refine blk_alloc ?_ _)); exact BK252.out) hb); have n3_ := Aside0.mk (below_step (by repeat (first | (with_reducible first | exact HB.out | apply below_alloc | apply pw_below_drewN | apply below_drew1 | refine below_set ?_ GE252.out) | exact HB.out)) hb); clear HO248; clear HO255; clear BK252; clear HB; have HO248 := n0_; have HO255 := n1_; have BK252 := n2_; have HB := n3_; clear n0_ n1_ n2_ n3_; (try clear hb); (try clear hb2); (try clear hk); (try clear hi); have hcz41_0 : w40.cell? ⟨gb252, 0, none⟩ = some (.int .i64 ((rd_T28 t245 t250).f0)) := (blk_cell BK252.out 0).trans rfl; have hcz41_1 : w40.cell? ⟨gb252, 1, none⟩ = some (.int .i64 ((rd_T28 t245 t250).f1)) := (blk_cell BK252.out 1).trans rfl; have hcz41_2 : w40.cell? ⟨gb252, 2, none⟩ = some (.int .i64 ((rd_T28 t245 t250).f2)) := (blk_cell BK252.out 2).trans rfl; have hcz41_3 : w40.cell? ⟨gb252, 3, none⟩ = some (.int .i64 ((rd_T28 t245 t250).f3)) := (blk_cell BK252.out 3).trans rfl; have hcz41_4 : w40.cell? ⟨gb252, 4, none⟩ = some (.bool ((rd_T28 t245 t250).f4)) := (blk_cell BK252.out 4).trans rfl; have hfz41_0 := blk_frozen BK252.out 0; have hfz41_1 := blk_frozen BK252.out 1; have hfz41_2 := blk_frozen BK252.out 2; have hfz41_3 := blk_frozen BK252.out 3; have hfz41_4 := blk_frozen BK252.out 4) | ((with_reducible refine gate_callee (f := 12) rfl ?_); refine goesL_ (some 76) rfl rfl Try.func12 (by kernel_rfl) rfl #[.slice Ao39 t253.length co39, .agg #[.int .i64 ((rd_T28 t245 t250).f0), .int .i64 ((rd_T28 t245 t250).f1), .int .i64 ((rd_T28 t245 t250).f2), .int .i64 ((rd_T28 t245 t250).f3), .bool ((rd_T28 t245 t250).f4)]] rfl (by (try simp only [List.map_toArray, List.map_cons, List.map_nil]); first | done | rfl | (simp only [List.length_drop, List.length_take]; rfl)) ?_; (with_reducible refine (right_Take.calls k _ _ t253 ((rd_T28 t245 t250).f0) ((rd_T28 t245 t250).f1) ((rd_T28 t245 t250).f2) ((rd_T28 t245 t250).f3) ((rd_T28 t245 t250).f4) t264 t267 _ ?side1 ?side2 A22.out).mono ?_); (case side1 => repeat (first | exact (Kd.R_reads' HO255.out).2.2 | (with_reducible refine Kd.C_alloc ?_ _) | (with_reducible refine Kd.C_drewN ?_ _) | (with_reducible refine Kd.C_drew ?_))); (case side2 => exact (Kd.R_reads' HO255.out).2.1); rintro e w42 ⟨v265, rfl, ho0, hb⟩; refine ⟨_, rfl, ?_⟩; have n0_ := Aside0.mk (Kd.R_elder' (by (with_reducible repeat (first | apply Kd.R_alloc | apply Kd.R_drewN | apply Kd.R_drew)); exact HO248.out) (Kd.R_base ho0) hb); have n1_ := Aside0.mk (Kd.R_elder' (by (with_reducible repeat (first | apply Kd.R_alloc | apply Kd.R_drewN | apply Kd.R_drew)); exact HO255.out) (Kd.R_base ho0) hb); have n2_ := Aside0.mk (Kd.R_lower (Kd.R_newB (Kd.R_new' (Kd.R_new' ho0 (Kd.R_lt (by (with_reducible repeat (first | apply Kd.R_alloc | apply Kd.R_drewN | apply Kd.R_drew)); exact HO248.out))) (Kd.R_lt (by (with_reducible repeat (first | apply Kd.R_alloc | apply Kd.R_drewN | apply Kd.R_drew)); exact HO255.out))) (g := gb252) (o := .cells #[.int .i64 ((rd_T28 t245 t250).f0), .int .i64 ((rd_T28 t245 t250).f1), .int .i64 ((rd_T28 t245 t250).f2), .int .i64 ((rd_T28 t245 t250).f3), .bool ((rd_T28 t245 t250).f4)] 28 (0, 0)) (by (with_reducible repeat (first | refine blk_drewN ?_ _ | refine blk_drew ?_ | refine blk_alloc ?_ _)); exact BK252.out)) (below_size (by repeat (first | (with_reducible first | exact HB.out | apply below_alloc | apply pw_below_drewN | apply below_drew1 | refine below_set ?_ GE252.out) | exact HB.out)))); have n3_ := Aside0.mk (blk_below (g := gb252) (o := .cells #[.int .i64 ((rd_T28 t245 t250).f0), .int .i64 ((rd_T28 t245 t250).f1), .int .i64 ((rd_T28 t245 t250).f2), .int .i64 ((rd_T28 t245 t250).f3), .bool ((rd_T28 t245 t250).f4)] 28 (0, 0)) (by (with_reducible repeat (first | refine blk_drewN ?_ _ | refine blk_drew ?_ | refine blk_alloc ?_ _)); exact BK252.out) hb); have n4_ := Aside0.mk (below_step (by repeat (first | (with_reducible first | exact HB.out | apply below_alloc | apply pw_below_drewN | apply below_drew1 | refine below_set ?_ GE252.out) | exact HB.out)) hb); clear HO248; clear HO255; clear BK252; clear HB; have HO248 := n0_; have HO255 := n1_; have HO266 := n2_; have BK252 := n3_; have HB := n4_; clear n0_ n1_ n2_ n3_ n4_; (try clear hb); (try clear hb2); (try clear hk); (try clear hi); (try clear ho0)) | ((with_reducible refine gate_callee (f := 10) rfl ?_); refine goesL_ (some 79) rfl rfl Try.func10 (by kernel_rfl) rfl #[] rfl (by (try simp only [List.map_toArray, List.map_cons, List.map_nil]); first | done | rfl | (simp only [List.length_drop, List.length_take]; rfl)) ?_; (with_reducible refine (chirographkeep_rightTells.calls k  true _ A23.out).mono ?_); rintro e w43 ⟨rfl, hb⟩; refine ⟨_, rfl, ?_⟩; have n0_ := Aside0.mk (Kd.R_below (by (with_reducible repeat (first | apply Kd.R_alloc | apply Kd.R_drewN | apply Kd.R_drew)); exact HO248.out) hb); have n1_ := Aside0.mk (Kd.R_below (by (with_reducible repeat (first | apply Kd.R_alloc | apply Kd.R_drewN | apply Kd.R_drew)); exact HO255.out) hb); have n2_ := Aside0.mk (Kd.R_below (by (with_reducible repeat (first | apply Kd.R_alloc | apply Kd.R_drewN | apply Kd.R_drew)); exact HO266.out) hb); have n3_ := Aside0.mk (blk_below (g := gb252) (o := .cells #[.int .i64 ((rd_T28 t245 t250).f0), .int .i64 ((rd_T28 t245 t250).f1), .int .i64 ((rd_T28 t245 t250).f2), .int .i64 ((rd_T28 t245 t250).f3), .bool ((rd_T28 t245 t250).f4)] 28 (0, 0)) (by (with_reducible repeat (first | refine blk_drewN ?_ _ | refine blk_drew ?_ | refine blk_alloc ?_ _)); exact BK252.out) hb); have n4_ := Aside0.mk (below_step (by repeat (first | (with_reducible first | exact HB.out | apply below_alloc | apply pw_below_drewN | apply below_drew1 | refine below_set ?_ GE252.out) | exact HB.out)) hb); clear HO248; clear HO255; clear HO266; clear BK252; clear HB; have HO248 := n0_; have HO255 := n1_; have HO266 := n2_; have BK252 := n3_; have HB := n4_; clear n0_ n1_ n2_ n3_ n4_; (try clear hb); (try clear hb2); (try clear hk); (try clear hi)) | (go_at_call 14; (with_reducible refine (right_Check.calls k _ _ t253 t269 _ ?side1 ?side2 A31.out).mono ?_); (case side1 => repeat (first | exact (Kd.R_reads' HO255.out).2.2 | (with_reducible refine Kd.C_alloc ?_ _) | (with_reducible refine Kd.C_drewN ?_ _) | (with_reducible refine Kd.C_drew ?_))); (case side2 => exact (Kd.R_reads' HO255.out).2.1); rintro e w44 ⟨rfl, hb⟩; have n0_ := Aside0.mk (Kd.R_below (by (with_reducible repeat (first | apply Kd.R_alloc | apply Kd.R_drewN | apply Kd.R_drew)); exact HO248.out) hb); have n1_ := Aside0.mk (Kd.R_below (by (with_reducible repeat (first | apply Kd.R_alloc | apply Kd.R_drewN | apply Kd.R_drew)); exact HO255.out) hb); have n2_ := Aside0.mk (Kd.R_below (by (with_reducible repeat (first | apply Kd.R_alloc | apply Kd.R_drewN | apply Kd.R_drew)); exact HO266.out) hb); have n3_ := Aside0.mk (blk_below (g := gb252) (o := .cells #[.int .i64 ((rd_T28 t245 t250).f0), .int .i64 ((rd_T28 t245 t250).f1), .int .i64 ((rd_T28 t245 t250).f2), .int .i64 ((rd_T28 t245 t250).f3), .bool ((rd_T28 t245 t250).f4)] 28 (0, 0)) (by (with_reducible repeat (first | refine blk_drewN ?_ _ | refine blk_drew ?_ | refine blk_alloc ?_ _)); exact BK252.out) hb); have n4_ := Aside0.mk (below_step (by repeat (first | (with_reducible first | exact HB.out | apply below_alloc | apply pw_below_drewN | apply below_drew1 | refine below_set ?_ GE252.out) | exact HB.out)) hb); clear HO248; clear HO255; clear HO266; clear BK252; clear HB; have HO248 := n0_; have HO255 := n1_; have HO266 := n2_; have BK252 := n3_; have HB := n4_; clear n0_ n1_ n2_ n3_ n4_; (try clear hb); (try clear hb2); (try clear hk); (try clear hi)))
            go_ret
            exact ⟨by first | rfl | (simp [errW_none, errW_some] <;> rfl) | (simp [*, errW_none, errW_some] <;> rfl), by repeat (first | (with_reducible first | exact HB.out | apply below_alloc | apply pw_below_drewN | apply below_drew1 | refine below_set ?_ GE252.out) | exact HB.out)⟩
           ·rw [if_neg c32] at H
            have c32b0 : (t269 == 0) = false := beq_eq_false_iff_ne.mpr c32
            have c32b1 : (t269 != 0) = true := bne_iff_ne.mpr c32
            exact absurd (Option.some.inj H) (by rw [hr_]; decide)
          ·rw [if_neg c30] at H
           have c30b0 : (t267 == 5) = false := beq_eq_false_iff_ne.mpr c30
           have c30b1 : (t267 != 5) = true := bne_iff_ne.mpr c30
           exact absurd (Option.some.inj H) (by rw [hr_]; decide)
         ·replace c29 := Bool.eq_false_iff.mpr c29
          subst c29
          have H1 : (if t262 = true then (some false) else (if t267 = 5 then ((right_Check.f k t253).bind fun t270 => (if t270 = 0 then (some (decide ((t253.length : Int) < (t245.length : Int)))) else (some false))) else (some false))) = some r := by rw [if_neg (show ¬ (false = true) by decide)] at H; exact H
          clear H
          have H := H1
          clear H1
          by_cases c45 : t262 = true
          ·subst c45
           have H1 : (some false) = some r := by rw [if_pos rfl] at H; exact H
           clear H
           have H := H1
           clear H1
           exact absurd (Option.some.inj H) (by rw [hr_]; decide)
          ·replace c45 := Bool.eq_false_iff.mpr c45
           subst c45
           have H1 : (if t267 = 5 then ((right_Check.f k t253).bind fun t270 => (if t270 = 0 then (some (decide ((t253.length : Int) < (t245.length : Int)))) else (some false))) else (some false)) = some r := by rw [if_neg (show ¬ (false = true) by decide)] at H; exact H
           clear H
           have H := H1
           clear H1
           by_cases c46 : t267 = 5
           ·rw [if_pos c46] at H
            have c46b0 : (t267 == 5) = true := beq_iff_eq.mpr c46
            have c46b1 : (t267 != 5) = false := bne_eq_false_iff_eq.mpr c46
            clear c46
            replace H := Option.bind_eq_some_iff.mp H
            obtain ⟨t270, A470, H⟩ := H
            replace H : (if t270 = 0 then (some (decide ((t253.length : Int) < (t245.length : Int)))) else (some false)) = some r := H
            have A47 := Aside0.mk A470
            clear A470
            by_cases c48 : t270 = 0
            ·rw [if_pos c48] at H
             have c48b0 : (t270 == 0) = true := beq_iff_eq.mpr c48
             have c48b1 : (t270 != 0) = false := bne_eq_false_iff_eq.mpr c48
             clear c48
             obtain rfl := Option.some.inj H
             go_enter Try.func3, Try.ntmps3
             go_wp2_with (first | ((with_reducible refine gate_callee (f := 9) rfl ?_); refine goesL_ (some 27) rfl rfl Try.func9 (by kernel_rfl) rfl #[.slice A0 l0.length c0] rfl (by (try simp only [List.map_toArray, List.map_cons, List.map_nil]); first | done | rfl | (simp only [List.length_drop, List.length_take]; rfl)) ?_; (with_reducible refine (chirographkeep_rights.calls k _ _ l0 t245 true _ ?side1 ?side2 A6.out).mono ?_); (case side1 => repeat (first | exact HR0.out | (with_reducible refine Kd.C_alloc ?_ _) | (with_reducible refine Kd.C_drewN ?_ _) | (with_reducible refine Kd.C_drew ?_))); (case side2 => exact HC0.out); rintro e w49 ⟨v247, rfl, ho0, hb⟩; refine ⟨_, rfl, ?_⟩; have n0_ := Aside0.mk (Kd.R_lower ho0 (below_size (by repeat (first | (with_reducible first | exact HB.out | apply below_alloc | apply pw_below_drewN | apply below_drew1) | exact HB.out)))); have n1_ := Aside0.mk (below_step (by repeat (first | (with_reducible first | exact HB.out | apply below_alloc | apply pw_below_drewN | apply below_drew1) | exact HB.out)) hb); clear HB; have HO248 := n0_; have HB := n1_; clear n0_ n1_; (try clear hb); (try clear hb2); (try clear hk); (try clear hi); (try clear ho0); obtain ⟨Ao50, co50, eo50⟩ := Kd.R_slice HO248.out; subst eo50) | ((with_reducible refine gate_callee (f := 11) rfl ?_); refine goesL_ (some 41) rfl rfl Try.func11 (by kernel_rfl) rfl #[.int .i64 a1, .int .i64 (t245.length : Int)] rfl (by (try simp only [List.map_toArray, List.map_cons, List.map_nil]); first | done | rfl | (simp only [List.length_drop, List.length_take]; rfl)) ?_; (with_reducible refine (chirographkeep_picked.calls a1 (t245.length : Int) t250 _ A13.out).mono ?_); rintro e w' ⟨rfl, ⟨nd, rfl⟩⟩; refine ⟨_, rfl, ?_⟩; (try (rw [drewN_self w49]; generalize hq_ : World.drewN w49 _ = w49; have n0_ : Aside0 (Kd.R k28 28 w49 w.heap.size (fun _ => True) (.slice Ao50 t245.length co50) t245) := ⟨by rw [← hq_]; exact (by (with_reducible repeat (first | apply Kd.R_alloc | apply Kd.R_drewN | apply Kd.R_drew)); exact HO248.out)⟩; have n1_ : Aside0 (Below w.heap.size w w49) := ⟨by rw [← hq_]; exact (by repeat (first | (with_reducible first | exact HB.out | apply below_alloc | apply pw_below_drewN | apply below_drew1) | exact HB.out))⟩; clear HO248 HB hq_; have HO248 := n0_; have HB := n1_; clear n0_ n1_)); have p251 : 0 ≤ (t250 : Int) := of_decide_eq_true (by first | (with_reducible assumption) | assumption); have q251 : t250 < (t245.length : Int) := of_decide_eq_true (by first | (with_reducible assumption) | assumption); obtain ⟨ad251, e251, hx251_0, hx251_1, hx251_2, hx251_3, hx251_4⟩ := at_T28 (Kd.R_reads' HO248.out).2.2 t250 p251 q251; cases e251; replace p251 := eq_true p251; replace q251 := eq_true q251) | ((with_reducible refine gate_dst (N := 13) rfl ?_); (try (refine gate_guard (by rfl) ?_; dsimp only)); refine box_event ?hg (N := 13) ?hd (cs := #[.int .i64 0, .int .i64 0, .int .i64 0, .int .i64 0, .bool false]) (t := 28) ?hr ?_; (case hd => rfl); (case hg => rfl); (case hr => first | (go_simp; done) | (go_simp; rfl)); intro gb252 hg w51 hbox hb; have n0_ := Aside0.mk (Kd.R_below (Kd.R_elderB (by (with_reducible repeat (first | apply Kd.R_alloc | apply Kd.R_drewN | apply Kd.R_drew)); exact HO248.out) gb252 (Nat.le_of_eq hg.symm)) hb); have n1_ := Aside0.mk (below_step (by repeat (first | (with_reducible first | exact HB.out | apply below_alloc | apply pw_below_drewN | apply below_drew1) | exact HB.out)) hb); have n2_ := Aside0.mk (hbox); have n3_ := Aside0.mk ((by rw [hg]; exact (below_size (by repeat (first | (with_reducible first | exact HB.out | apply below_alloc | apply pw_below_drewN | apply below_drew1) | exact HB.out))) : w.heap.size ≤ gb252)); have n4_ := Aside0.mk ((by rw [hg]; exact (below_size (by repeat (first | (with_reducible first | exact HB.out | apply below_alloc | apply pw_below_drewN | apply below_drew1) | exact HB.out))) : w.heap.size ≤ gb252)); clear HO248; clear HB; have HO248 := n0_; have HB := n1_; have BK252 := n2_; have GW252 := n3_; have GE252 := n4_; clear n0_ n1_ n2_ n3_ n4_; clear hb hbox hg; have hcz52_0 : w51.cell? ⟨gb252, 0, none⟩ = some (.int .i64 0) := (blk_cell BK252.out 0).trans rfl; have hcz52_1 : w51.cell? ⟨gb252, 1, none⟩ = some (.int .i64 0) := (blk_cell BK252.out 1).trans rfl; have hcz52_2 : w51.cell? ⟨gb252, 2, none⟩ = some (.int .i64 0) := (blk_cell BK252.out 2).trans rfl; have hcz52_3 : w51.cell? ⟨gb252, 3, none⟩ = some (.int .i64 0) := (blk_cell BK252.out 3).trans rfl; have hcz52_4 : w51.cell? ⟨gb252, 4, none⟩ = some (.bool false) := (blk_cell BK252.out 4).trans rfl; have hfz52_0 := blk_frozen BK252.out 0; have hfz52_1 := blk_frozen BK252.out 1; have hfz52_2 := blk_frozen BK252.out 2; have hfz52_3 := blk_frozen BK252.out 3; have hfz52_4 := blk_frozen BK252.out 4) | ((with_reducible refine gate_callee (f := 12) rfl ?_); refine goesL_ (some 47) rfl rfl Try.func12 (by kernel_rfl) rfl #[.slice (some ad251) t245.length co50, .agg #[.int .i64 ((rd_T28 t245 t250).f0), .int .i64 ((rd_T28 t245 t250).f1), .int .i64 ((rd_T28 t245 t250).f2), .int .i64 ((rd_T28 t245 t250).f3), .bool ((rd_T28 t245 t250).f4)]] rfl (by (try simp only [List.map_toArray, List.map_cons, List.map_nil]); first | done | rfl | (simp only [List.length_drop, List.length_take]; rfl)) ?_; (with_reducible refine (right_Take.calls k _ _ t245 ((rd_T28 t245 t250).f0) ((rd_T28 t245 t250).f1) ((rd_T28 t245 t250).f2) ((rd_T28 t245 t250).f3) ((rd_T28 t245 t250).f4) t253 t256 _ ?side1 ?side2 A16.out).mono ?_); (case side1 => refine (Kd.R_reads' (e := 28) (base := w.heap.size) (ok := fun k_ => (True ∧ k_ ≠ gb252)) (n := t245.length) (c := co50) ?_).2.2; exact (by (with_reducible repeat (first | apply Kd.R_alloc | apply Kd.R_drewN | apply Kd.R_drew)); exact (Kd.R_mono (Kd.R_far (p := ⟨gb252, 4, none⟩) (Kd.R_far (p := ⟨gb252, 3, none⟩) (Kd.R_far (p := ⟨gb252, 2, none⟩) (Kd.R_far (p := ⟨gb252, 1, none⟩) (Kd.R_far (p := ⟨gb252, 0, none⟩) (Kd.R_mono HO248.out (fun k_ hk => (⟨hk, hk.2⟩ : _ ∧ k_ ≠ gb252))) (fun _ hk => hk.2) (.int .i64 ((rd_T28 t245 t250).f0))) (fun _ hk => hk.2) (.int .i64 ((rd_T28 t245 t250).f1))) (fun _ hk => hk.2) (.int .i64 ((rd_T28 t245 t250).f2))) (fun _ hk => hk.2) (.int .i64 ((rd_T28 t245 t250).f3))) (fun _ hk => hk.2) (.bool ((rd_T28 t245 t250).f4))) (fun _ h_ => h_.1)))); (case side2 => exact (Kd.R_reads' HO248.out).2.1); rintro e w53 ⟨v254, rfl, ho0, hb⟩; refine ⟨_, rfl, ?_⟩; have n0_ := Aside0.mk (Kd.R_elder' (by (with_reducible repeat (first | apply Kd.R_alloc | apply Kd.R_drewN | apply Kd.R_drew)); exact (Kd.R_mono (Kd.R_far (p := ⟨gb252, 4, none⟩) (Kd.R_far (p := ⟨gb252, 3, none⟩) (Kd.R_far (p := ⟨gb252, 2, none⟩) (Kd.R_far (p := ⟨gb252, 1, none⟩) (Kd.R_far (p := ⟨gb252, 0, none⟩) (Kd.R_mono HO248.out (fun k_ hk => (⟨hk, hk.2⟩ : _ ∧ k_ ≠ gb252))) (fun _ hk => hk.2) (.int .i64 ((rd_T28 t245 t250).f0))) (fun _ hk => hk.2) (.int .i64 ((rd_T28 t245 t250).f1))) (fun _ hk => hk.2) (.int .i64 ((rd_T28 t245 t250).f2))) (fun _ hk => hk.2) (.int .i64 ((rd_T28 t245 t250).f3))) (fun _ hk => hk.2) (.bool ((rd_T28 t245 t250).f4))) (fun _ h_ => h_.1))) (Kd.R_base ho0) hb); have n1_ := Aside0.mk (Kd.R_lower (Kd.R_newB (Kd.R_new' ho0 (Kd.R_lt (by (with_reducible repeat (first | apply Kd.R_alloc | apply Kd.R_drewN | apply Kd.R_drew)); exact (Kd.R_mono (Kd.R_far (p := ⟨gb252, 4, none⟩) (Kd.R_far (p := ⟨gb252, 3, none⟩) (Kd.R_far (p := ⟨gb252, 2, none⟩) (Kd.R_far (p := ⟨gb252, 1, none⟩) (Kd.R_far (p := ⟨gb252, 0, none⟩) (Kd.R_mono HO248.out (fun k_ hk => (⟨hk, hk.2⟩ : _ ∧ k_ ≠ gb252))) (fun _ hk => hk.2) (.int .i64 ((rd_T28 t245 t250).f0))) (fun _ hk => hk.2) (.int .i64 ((rd_T28 t245 t250).f1))) (fun _ hk => hk.2) (.int .i64 ((rd_T28 t245 t250).f2))) (fun _ hk => hk.2) (.int .i64 ((rd_T28 t245 t250).f3))) (fun _ hk => hk.2) (.bool ((rd_T28 t245 t250).f4))) (fun _ h_ => h_.1))))) (g := gb252) (o := .cells #[.int .i64 ((rd_T28 t245 t250).f0), .int .i64 ((rd_T28 t245 t250).f1), .int .i64 ((rd_T28 t245 t250).f2), .int .i64 ((rd_T28 t245 t250).f3), .bool ((rd_T28 t245 t250).f4)] 28 (0, 0)) (by (with_reducible repeat (first | refine blk_drewN ?_ _ | refine blk_drew ?_ | refine blk_alloc ?_ _)); refine blk_put (cs := #[.int .i64 ((rd_T28 t245 t250).f0), .int .i64 ((rd_T28 t245 t250).f1), .int .i64 ((rd_T28 t245 t250).f2), .int .i64 ((rd_T28 t245 t250).f3), .bool false]) ?_ 4 _ rfl; (with_reducible repeat (first | refine blk_drewN ?_ _ | refine blk_drew ?_ | refine blk_alloc ?_ _)); refine blk_put (cs := #[.int .i64 ((rd_T28 t245 t250).f0), .int .i64 ((rd_T28 t245 t250).f1), .int .i64 ((rd_T28 t245 t250).f2), .int .i64 0, .bool false]) ?_ 3 _ rfl; (with_reducible repeat (first | refine blk_drewN ?_ _ | refine blk_drew ?_ | refine blk_alloc ?_ _)); refine blk_put (cs := #[.int .i64 ((rd_T28 t245 t250).f0), .int .i64 ((rd_T28 t245 t250).f1), .int .i64 0, .int .i64 0, .bool false]) ?_ 2 _ rfl; (with_reducible repeat (first | refine blk_drewN ?_ _ | refine blk_drew ?_ | refine blk_alloc ?_ _)); refine blk_put (cs := #[.int .i64 ((rd_T28 t245 t250).f0), .int .i64 0, .int .i64 0, .int .i64 0, .bool false]) ?_ 1 _ rfl; (with_reducible repeat (first | refine blk_drewN ?_ _ | refine blk_drew ?_ | refine blk_alloc ?_ _)); refine blk_put (cs := #[.int .i64 0, .int .i64 0, .int .i64 0, .int .i64 0, .bool false]) ?_ 0 _ rfl; (with_reducible repeat (first | refine blk_drewN ?_ _ | refine blk_drew ?_ | refine blk_alloc ?_ _)); exact BK252.out)) (below_size (by repeat (first | (with_reducible first | exact HB.out | apply below_alloc | apply pw_below_drewN | apply below_drew1 | refine below_set ?_ GE252.out) | exact HB.out)))); have n2_ := Aside0.mk (blk_below (g := gb252) (o := .cells #[.int .i64 ((rd_T28 t245 t250).f0), .int .i64 ((rd_T28 t245 t250).f1), .int .i64 ((rd_T28 t245 t250).f2), .int .i64 ((rd_T28 t245 t250).f3), .bool ((rd_T28 t245 t250).f4)] 28 (0, 0)) (by (with_reducible repeat (first | refine blk_drewN ?_ _ | refine blk_drew ?_ | refine blk_alloc ?_ _)); refine blk_put (cs := #[.int .i64 ((rd_T28 t245 t250).f0), .int .i64 ((rd_T28 t245 t250).f1), .int .i64 ((rd_T28 t245 t250).f2), .int .i64 ((rd_T28 t245 t250).f3), .bool false]) ?_ 4 _ rfl; (with_reducible repeat (first | refine blk_drewN ?_ _ | refine blk_drew ?_ | refine blk_alloc ?_ _)); refine blk_put (cs := #[.int .i64 ((rd_T28 t245 t250).f0), .int .i64 ((rd_T28 t245 t250).f1), .int .i64 ((rd_T28 t245 t250).f2), .int .i64 0, .bool false]) ?_ 3 _ rfl; (with_reducible repeat (first | refine blk_drewN ?_ _ | refine blk_drew ?_ | refine blk_alloc ?_ _)); refine blk_put (cs := #[.int .i64 ((rd_T28 t245 t250).f0), .int .i64 ((rd_T28 t245 t250).f1), .int .i64 0, .int .i64 0, .bool false]) ?_ 2 _ rfl; (with_reducible repeat (first | refine blk_drewN ?_ _ | refine blk_drew ?_ | refine blk_alloc ?_ _)); refine blk_put (cs := #[.int .i64 ((rd_T28 t245 t250).f0), .int .i64 0, .int .i64 0, .int .i64 0, .bool false]) ?_ 1 _ rfl; (with_reducible repeat (first | refine blk_drewN ?_ _ | refine blk_drew ?_ | refine blk_alloc ?_ _)); refine blk_put (cs := #[.int .i64 0, .int .i64 0, .int .i64 0, .int .i64 0, .bool false]) ?_ 0 _ rfl; (with_reducible repeat (first | refine blk_drewN ?_ _ | refine blk_drew ?_ | refine blk_alloc ?_ _)); exact BK252.out) hb); have n3_ := Aside0.mk (below_step (by repeat (first | (with_reducible first | exact HB.out | apply below_alloc | apply pw_below_drewN | apply below_drew1 | refine below_set ?_ GE252.out) | exact HB.out)) hb); clear HO248; clear BK252; clear HB; have HO248 := n0_; have HO255 := n1_; have BK252 := n2_; have HB := n3_; clear n0_ n1_ n2_ n3_; (try clear hb); (try clear hb2); (try clear hk); (try clear hi); (try clear ho0)) | ((with_reducible refine gate_callee (f := 11) rfl ?_); refine goesL_ (some 51) rfl rfl Try.func11 (by kernel_rfl) rfl #[.int .i64 a2, .int .i64 3] rfl (by (try simp only [List.map_toArray, List.map_cons, List.map_nil]); first | done | rfl | (simp only [List.length_drop, List.length_take]; rfl)) ?_; (with_reducible refine (chirographkeep_picked.calls a2 3 t257 _ A17.out).mono ?_); rintro e w' ⟨rfl, ⟨nd, rfl⟩⟩; refine ⟨_, rfl, ?_⟩) | ((with_reducible refine gate_callee (f := 11) rfl ?_); refine goesL_ (some 53) rfl rfl Try.func11 (by kernel_rfl) rfl #[.int .i64 a3, .int .i64 12] rfl (by (try simp only [List.map_toArray, List.map_cons, List.map_nil]); first | done | rfl | (simp only [List.length_drop, List.length_take]; rfl)) ?_; (with_reducible refine (chirographkeep_picked.calls a3 12 t258 _ A18.out).mono ?_); rintro e w' ⟨rfl, ⟨nd, rfl⟩⟩; refine ⟨_, rfl, ?_⟩) | ((with_reducible refine gate_callee (f := 11) rfl ?_); refine goesL_ (some 55) rfl rfl Try.func11 (by kernel_rfl) rfl #[.int .i64 a4, .int .i64 2] rfl (by (try simp only [List.map_toArray, List.map_cons, List.map_nil]); first | done | rfl | (simp only [List.length_drop, List.length_take]; rfl)) ?_; (with_reducible refine (chirographkeep_picked.calls a4 2 t259 _ A19.out).mono ?_); rintro e w' ⟨rfl, ⟨nd, rfl⟩⟩; refine ⟨_, rfl, ?_⟩) | ((with_reducible refine gate_callee (f := 13) rfl ?_); refine goesL_ (some 62) rfl rfl Try.func13 (by kernel_rfl) rfl #[.slice (some ad251) t245.length co50, .int .i64 t257, .int .i64 t258, .int .i64 (wrap64 (1 + t259))] rfl (by (try simp only [List.map_toArray, List.map_cons, List.map_nil]); first | done | rfl | (simp only [List.length_drop, List.length_take]; rfl)) ?_; (with_reducible refine (right_Has.calls k _ _ t245 t257 t258 (wrap64 (1 + t259)) false t261 _ ?side1 ?side2 A20.out).mono ?_); (case side1 => repeat (first | exact (Kd.R_reads' HO248.out).2.2 | (with_reducible refine Kd.C_alloc ?_ _) | (with_reducible refine Kd.C_drewN ?_ _) | (with_reducible refine Kd.C_drew ?_))); (case side2 => exact (Kd.R_reads' HO248.out).2.1); rintro e w54 ⟨rfl, hb⟩; refine ⟨_, rfl, ?_⟩; have n0_ := Aside0.mk (Kd.R_below (by (with_reducible repeat (first | apply Kd.R_alloc | apply Kd.R_drewN | apply Kd.R_drew)); exact HO248.out) hb); have n1_ := Aside0.mk (Kd.R_below (by (with_reducible repeat (first | apply Kd.R_alloc | apply Kd.R_drewN | apply Kd.R_drew)); exact HO255.out) hb); have n2_ := Aside0.mk (blk_below (g := gb252) (o := .cells #[.int .i64 ((rd_T28 t245 t250).f0), .int .i64 ((rd_T28 t245 t250).f1), .int .i64 ((rd_T28 t245 t250).f2), .int .i64 ((rd_T28 t245 t250).f3), .bool ((rd_T28 t245 t250).f4)] 28 (0, 0)) (by (with_reducible repeat (first | refine blk_drewN ?_ _ | refine blk_drew ?_ | refine blk_alloc ?_ _)); exact BK252.out) hb); have n3_ := Aside0.mk (below_step (by repeat (first | (with_reducible first | exact HB.out | apply below_alloc | apply pw_below_drewN | apply below_drew1 | refine below_set ?_ GE252.out) | exact HB.out)) hb); clear HO248; clear HO255; clear BK252; clear HB; have HO248 := n0_; have HO255 := n1_; have BK252 := n2_; have HB := n3_; clear n0_ n1_ n2_ n3_; (try clear hb); (try clear hb2); (try clear hk); (try clear hi); obtain ⟨Ao55, co55, eo55⟩ := Kd.R_slice HO255.out; subst eo55) | ((with_reducible refine gate_callee (f := 13) rfl ?_); refine goesL_ (some 70) rfl rfl Try.func13 (by kernel_rfl) rfl #[.slice Ao55 t253.length co55, .int .i64 t257, .int .i64 t258, .int .i64 (wrap64 (1 + t259))] rfl (by (try simp only [List.map_toArray, List.map_cons, List.map_nil]); first | done | rfl | (simp only [List.length_drop, List.length_take]; rfl)) ?_; (with_reducible refine (right_Has.calls k _ _ t253 t257 t258 (wrap64 (1 + t259)) false t263 _ ?side1 ?side2 A21.out).mono ?_); (case side1 => repeat (first | exact (Kd.R_reads' HO255.out).2.2 | (with_reducible refine Kd.C_alloc ?_ _) | (with_reducible refine Kd.C_drewN ?_ _) | (with_reducible refine Kd.C_drew ?_))); (case side2 => exact (Kd.R_reads' HO255.out).2.1); rintro e w56 ⟨rfl, hb⟩; refine ⟨_, rfl, ?_⟩; have n0_ := Aside0.mk (Kd.R_below (by (with_reducible repeat (first | apply Kd.R_alloc | apply Kd.R_drewN | apply Kd.R_drew)); exact HO248.out) hb); have n1_ := Aside0.mk (Kd.R_below (by (with_reducible repeat (first | apply Kd.R_alloc | apply Kd.R_drewN | apply Kd.R_drew)); exact HO255.out) hb); have n2_ := Aside0.mk (blk_below (g := gb252) (o := .cells #[.int .i64 ((rd_T28 t245 t250).f0), .int .i64 ((rd_T28 t245 t250).f1), .int .i64 ((rd_T28 t245 t250).f2), .int .i64 ((rd_T28 t245 t250).f3), .bool ((rd_T28 t245 t250).f4)] 28 (0, 0)) (by (with_reducible repeat (first | refine blk_drewN ?_ _ | refine blk_drew ?_ | refine blk_alloc ?_ _)); exact BK252.out) hb); have n3_ := Aside0.mk (below_step (by repeat (first | (with_reducible first | exact HB.out | apply below_alloc | apply pw_below_drewN | apply below_drew1 | refine below_set ?_ GE252.out) | exact HB.out)) hb); clear HO248; clear HO255; clear BK252; clear HB; have HO248 := n0_; have HO255 := n1_; have BK252 := n2_; have HB := n3_; clear n0_ n1_ n2_ n3_; (try clear hb); (try clear hb2); (try clear hk); (try clear hi); have hcz57_0 : w56.cell? ⟨gb252, 0, none⟩ = some (.int .i64 ((rd_T28 t245 t250).f0)) := (blk_cell BK252.out 0).trans rfl; have hcz57_1 : w56.cell? ⟨gb252, 1, none⟩ = some (.int .i64 ((rd_T28 t245 t250).f1)) := (blk_cell BK252.out 1).trans rfl; have hcz57_2 : w56.cell? ⟨gb252, 2, none⟩ = some (.int .i64 ((rd_T28 t245 t250).f2)) := (blk_cell BK252.out 2).trans rfl; have hcz57_3 : w56.cell? ⟨gb252, 3, none⟩ = some (.int .i64 ((rd_T28 t245 t250).f3)) := (blk_cell BK252.out 3).trans rfl; have hcz57_4 : w56.cell? ⟨gb252, 4, none⟩ = some (.bool ((rd_T28 t245 t250).f4)) := (blk_cell BK252.out 4).trans rfl; have hfz57_0 := blk_frozen BK252.out 0; have hfz57_1 := blk_frozen BK252.out 1; have hfz57_2 := blk_frozen BK252.out 2; have hfz57_3 := blk_frozen BK252.out 3; have hfz57_4 := blk_frozen BK252.out 4) | ((with_reducible refine gate_callee (f := 12) rfl ?_); refine goesL_ (some 76) rfl rfl Try.func12 (by kernel_rfl) rfl #[.slice Ao55 t253.length co55, .agg #[.int .i64 ((rd_T28 t245 t250).f0), .int .i64 ((rd_T28 t245 t250).f1), .int .i64 ((rd_T28 t245 t250).f2), .int .i64 ((rd_T28 t245 t250).f3), .bool ((rd_T28 t245 t250).f4)]] rfl (by (try simp only [List.map_toArray, List.map_cons, List.map_nil]); first | done | rfl | (simp only [List.length_drop, List.length_take]; rfl)) ?_; (with_reducible refine (right_Take.calls k _ _ t253 ((rd_T28 t245 t250).f0) ((rd_T28 t245 t250).f1) ((rd_T28 t245 t250).f2) ((rd_T28 t245 t250).f3) ((rd_T28 t245 t250).f4) t264 t267 _ ?side1 ?side2 A22.out).mono ?_); (case side1 => repeat (first | exact (Kd.R_reads' HO255.out).2.2 | (with_reducible refine Kd.C_alloc ?_ _) | (with_reducible refine Kd.C_drewN ?_ _) | (with_reducible refine Kd.C_drew ?_))); (case side2 => exact (Kd.R_reads' HO255.out).2.1); rintro e w58 ⟨v265, rfl, ho0, hb⟩; refine ⟨_, rfl, ?_⟩; have n0_ := Aside0.mk (Kd.R_elder' (by (with_reducible repeat (first | apply Kd.R_alloc | apply Kd.R_drewN | apply Kd.R_drew)); exact HO248.out) (Kd.R_base ho0) hb); have n1_ := Aside0.mk (Kd.R_elder' (by (with_reducible repeat (first | apply Kd.R_alloc | apply Kd.R_drewN | apply Kd.R_drew)); exact HO255.out) (Kd.R_base ho0) hb); have n2_ := Aside0.mk (Kd.R_lower (Kd.R_newB (Kd.R_new' (Kd.R_new' ho0 (Kd.R_lt (by (with_reducible repeat (first | apply Kd.R_alloc | apply Kd.R_drewN | apply Kd.R_drew)); exact HO248.out))) (Kd.R_lt (by (with_reducible repeat (first | apply Kd.R_alloc | apply Kd.R_drewN | apply Kd.R_drew)); exact HO255.out))) (g := gb252) (o := .cells #[.int .i64 ((rd_T28 t245 t250).f0), .int .i64 ((rd_T28 t245 t250).f1), .int .i64 ((rd_T28 t245 t250).f2), .int .i64 ((rd_T28 t245 t250).f3), .bool ((rd_T28 t245 t250).f4)] 28 (0, 0)) (by (with_reducible repeat (first | refine blk_drewN ?_ _ | refine blk_drew ?_ | refine blk_alloc ?_ _)); exact BK252.out)) (below_size (by repeat (first | (with_reducible first | exact HB.out | apply below_alloc | apply pw_below_drewN | apply below_drew1 | refine below_set ?_ GE252.out) | exact HB.out)))); have n3_ := Aside0.mk (blk_below (g := gb252) (o := .cells #[.int .i64 ((rd_T28 t245 t250).f0), .int .i64 ((rd_T28 t245 t250).f1), .int .i64 ((rd_T28 t245 t250).f2), .int .i64 ((rd_T28 t245 t250).f3), .bool ((rd_T28 t245 t250).f4)] 28 (0, 0)) (by (with_reducible repeat (first | refine blk_drewN ?_ _ | refine blk_drew ?_ | refine blk_alloc ?_ _)); exact BK252.out) hb); have n4_ := Aside0.mk (below_step (by repeat (first | (with_reducible first | exact HB.out | apply below_alloc | apply pw_below_drewN | apply below_drew1 | refine below_set ?_ GE252.out) | exact HB.out)) hb); clear HO248; clear HO255; clear BK252; clear HB; have HO248 := n0_; have HO255 := n1_; have HO266 := n2_; have BK252 := n3_; have HB := n4_; clear n0_ n1_ n2_ n3_ n4_; (try clear hb); (try clear hb2); (try clear hk); (try clear hi); (try clear ho0)) | ((with_reducible refine gate_callee (f := 10) rfl ?_); refine goesL_ (some 79) rfl rfl Try.func10 (by kernel_rfl) rfl #[] rfl (by (try simp only [List.map_toArray, List.map_cons, List.map_nil]); first | done | rfl | (simp only [List.length_drop, List.length_take]; rfl)) ?_; (with_reducible refine (chirographkeep_rightTells.calls k  true _ A23.out).mono ?_); rintro e w59 ⟨rfl, hb⟩; refine ⟨_, rfl, ?_⟩; have n0_ := Aside0.mk (Kd.R_below (by (with_reducible repeat (first | apply Kd.R_alloc | apply Kd.R_drewN | apply Kd.R_drew)); exact HO248.out) hb); have n1_ := Aside0.mk (Kd.R_below (by (with_reducible repeat (first | apply Kd.R_alloc | apply Kd.R_drewN | apply Kd.R_drew)); exact HO255.out) hb); have n2_ := Aside0.mk (Kd.R_below (by (with_reducible repeat (first | apply Kd.R_alloc | apply Kd.R_drewN | apply Kd.R_drew)); exact HO266.out) hb); have n3_ := Aside0.mk (blk_below (g := gb252) (o := .cells #[.int .i64 ((rd_T28 t245 t250).f0), .int .i64 ((rd_T28 t245 t250).f1), .int .i64 ((rd_T28 t245 t250).f2), .int .i64 ((rd_T28 t245 t250).f3), .bool ((rd_T28 t245 t250).f4)] 28 (0, 0)) (by (with_reducible repeat (first | refine blk_drewN ?_ _ | refine blk_drew ?_ | refine blk_alloc ?_ _)); exact BK252.out) hb); have n4_ := Aside0.mk (below_step (by repeat (first | (with_reducible first | exact HB.out | apply below_alloc | apply pw_below_drewN | apply below_drew1 | refine below_set ?_ GE252.out) | exact HB.out)) hb); clear HO248; clear HO255; clear HO266; clear BK252; clear HB; have HO248 := n0_; have HO255 := n1_; have HO266 := n2_; have BK252 := n3_; have HB := n4_; clear n0_ n1_ n2_ n3_ n4_; (try clear hb); (try clear hb2); (try clear hk); (try clear hi)) | (go_at_call 14; (with_reducible refine (right_Check.calls k _ _ t253 t270 _ ?side1 ?side2 A47.out).mono ?_); (case side1 => repeat (first | exact (Kd.R_reads' HO255.out).2.2 | (with_reducible refine Kd.C_alloc ?_ _) | (with_reducible refine Kd.C_drewN ?_ _) | (with_reducible refine Kd.C_drew ?_))); (case side2 => exact (Kd.R_reads' HO255.out).2.1); rintro e w60 ⟨rfl, hb⟩; have n0_ := Aside0.mk (Kd.R_below (by (with_reducible repeat (first | apply Kd.R_alloc | apply Kd.R_drewN | apply Kd.R_drew)); exact HO248.out) hb); have n1_ := Aside0.mk (Kd.R_below (by (with_reducible repeat (first | apply Kd.R_alloc | apply Kd.R_drewN | apply Kd.R_drew)); exact HO255.out) hb); have n2_ := Aside0.mk (Kd.R_below (by (with_reducible repeat (first | apply Kd.R_alloc | apply Kd.R_drewN | apply Kd.R_drew)); exact HO266.out) hb); have n3_ := Aside0.mk (blk_below (g := gb252) (o := .cells #[.int .i64 ((rd_T28 t245 t250).f0), .int .i64 ((rd_T28 t245 t250).f1), .int .i64 ((rd_T28 t245 t250).f2), .int .i64 ((rd_T28 t245 t250).f3), .bool ((rd_T28 t245 t250).f4)] 28 (0, 0)) (by (with_reducible repeat (first | refine blk_drewN ?_ _ | refine blk_drew ?_ | refine blk_alloc ?_ _)); exact BK252.out) hb); have n4_ := Aside0.mk (below_step (by repeat (first | (with_reducible first | exact HB.out | apply below_alloc | apply pw_below_drewN | apply below_drew1 | refine below_set ?_ GE252.out) | exact HB.out)) hb); clear HO248; clear HO255; clear HO266; clear BK252; clear HB; have HO248 := n0_; have HO255 := n1_; have HO266 := n2_; have BK252 := n3_; have HB := n4_; clear n0_ n1_ n2_ n3_ n4_; (try clear hb); (try clear hb2); (try clear hk); (try clear hi)))
             go_ret
             exact ⟨by first | rfl | (simp [errW_none, errW_some] <;> rfl) | (simp [*, errW_none, errW_some] <;> rfl), by repeat (first | (with_reducible first | exact HB.out | apply below_alloc | apply pw_below_drewN | apply below_drew1 | refine below_set ?_ GE252.out) | exact HB.out)⟩
            ·rw [if_neg c48] at H
             have c48b0 : (t270 == 0) = false := beq_eq_false_iff_ne.mpr c48
             have c48b1 : (t270 != 0) = true := bne_iff_ne.mpr c48
             exact absurd (Option.some.inj H) (by rw [hr_]; decide)
           ·rw [if_neg c46] at H
            have c46b0 : (t267 == 5) = false := beq_eq_false_iff_ne.mpr c46
            have c46b1 : (t267 != 5) = true := bne_iff_ne.mpr c46
            exact absurd (Option.some.inj H) (by rw [hr_]; decide)
        ·rw [if_neg c28] at H
         have c28b0 : (t263 == 0) = false := beq_eq_false_iff_ne.mpr c28
         have c28b1 : (t263 != 0) = true := bne_iff_ne.mpr c28
         exact absurd (Option.some.inj H) (by rw [hr_]; decide)
       ·rw [if_neg c27] at H
        have c27b0 : (t261 == 0) = false := beq_eq_false_iff_ne.mpr c27
        have c27b1 : (t261 != 0) = true := bne_iff_ne.mpr c27
        exact absurd (Option.some.inj H) (by rw [hr_]; decide)
      ·rw [if_neg c26] at H
       have c26b0 : (t256 == 0) = false := beq_eq_false_iff_ne.mpr c26
       have c26b1 : (t256 != 0) = true := bne_iff_ne.mpr c26
       exact absurd (Option.some.inj H) (by rw [hr_]; decide)
     ·replace c25 := Bool.eq_false_iff.mpr c25
      subst c25
      have H1 : (some false) = some r := by rw [if_neg (show ¬ (false = true) by decide)] at H; exact H
      clear H
      have H := H1
      clear H1
      exact absurd (Option.some.inj H) (by rw [hr_]; decide)
    ·replace c24 := Bool.eq_false_iff.mpr c24
     subst c24
     have H1 : (some false) = some r := by rw [if_neg (show ¬ (false = true) by decide)] at H; exact H
     clear H
     have H := H1
     clear H1
     exact absurd (Option.some.inj H) (by rw [hr_]; decide)
   ·rw [if_neg c15] at H
    exact absurd H (by simp)
  ·rw [if_neg c14] at H
   exact absurd H (by simp)

/-- THE ONE PURE STATEMENT of chirographkeep_TakeLess. -/
def chirographkeep_TakeLess.Pure : Prop := ∀ (l0 : List (S40)) (a1 : Int) (a2 : Int) (a3 : Int) (a4 : Int), l0.length ≤ maxLen → l0.length * 40 ≤ 140737488351232 → (∀ x_ ∈ l0, ((Lit.int .i64 x_.f0).wf = true ∧ (Lit.int .i64 x_.f1).wf = true ∧ (Lit.int .i64 x_.f2).wf = true ∧ x_.f3.size ≤ maxLen)) → (Lit.int .i64 a1).wf = true → (Lit.int .i64 a2).wf = true → (Lit.int .i64 a3).wf = true → (Lit.int .i64 a4).wf = true → ∃ k, chirographkeep_TakeLess.f k l0 a1 a2 a3 a4 = some true

end Go.Proofs.Ytblnkfnafbmgnaa.QTakeLess
