-- WRITTEN BY mkprint.py, a program of this session (out of the translation). Lean checks it.
import Derived.Test.YtpgegljlgicpkaaDoorQRealsRisex0
import Derived.Test.YtpgegljlgicpkaaDoorQRealsRisex1
import Derived.Test.YtpgegljlgicpkaaDoorQRealsRisex3
namespace Go.Proofs.YtpgegljlgicpkaaDoor.QRealsRise
open Go.RowKit Go.Proofs.YtpgegljlgicpkaaDoorW.PrintWords Go.Proofs.YtpgegljlgicpkaaDoorW.PrintLast Go.Proofs.YtpgegljlgicpkaaDoorW.PrintMore
attribute [local go_sem] max2_int min2_int max_two min_two max_three min_three max_four min_four   -- for this text's walks alone
set_option linter.unusedVariables false
set_option linter.unusedSimpArgs false

/-! ### chirographkeep_RealsRise: function 3 -/
def chirographkeep_RealsRise.f (k : Nat) (a0 : Int) (a1 : Int) : Option (Bool) := (chirographkeep_picked.f a0 1125899906842624).bind fun t114 => ((chirographkeep_picked.f a1 1125899906842624).bind fun t115 => ((chirographkeep_whole.f k (wrap64 (t114 - 562949953421312))).bind fun bt116 => ((chirographkeep_whole.f k (wrap64 (t115 - 562949953421312))).bind fun bt120 => ((value_Compare.f k bt116.1 bt116.2.1 bt116.2.2.1 bt116.2.2.2 bt120.1 bt120.2.1 bt120.2.2.1 bt120.2.2.2).bind fun bt124 => ((value_Compare.f k 2 (wrap64 (t114 - 562949953421312)) 0 (⟨#[]⟩ : ByteArray) 2 (wrap64 (t115 - 562949953421312)) 0 (⟨#[]⟩ : ByteArray)).bind fun bt126 => (if bt124.2 = 0 then (if bt126.2 = 0 then (if bt124.1 = bt126.1 then (if (wrap64 (t114 - 562949953421312)) = (wrap64 (t115 - 562949953421312)) then (some true) else (some (bt124.1 != 0))) else (some false)) else (some false)) else (some false)))))))
theorem chirographkeep_RealsRise.mono : ∀ a0 a1 k, LeO (chirographkeep_RealsRise.f k a0 a1) (chirographkeep_RealsRise.f (k + 1) a0 a1) := by
  intro a0 a1 k
  unfold chirographkeep_RealsRise.f
  repeat' first
      | (with_reducible exact chirographkeep_whole.mono _ _)
      | (with_reducible exact value_Compare.mono _ _ _ _ _ _ _ _ _)
      | (with_reducible exact LeO.refl _)
      | (with_reducible exact LeO.none _)
      | (with_reducible refine LeO.ite ?_ ?_)
      | (with_reducible refine LeO.bind ?_ (fun _ => ?_))
      | exact chirographkeep_whole.mono _ _
      | exact value_Compare.mono _ _ _ _ _ _ _ _ _
      | exact LeO.none _
      | refine LeO.ite ?_ ?_
      | refine LeO.bind ?_ (fun _ => ?_)
set_option maxHeartbeats 8000000 in
set_option maxRecDepth 100000 in
theorem chirographkeep_RealsRise.calls (k : Nat) (a0 : Int) (a1 : Int) (r : Bool) (w : World) (h : chirographkeep_RealsRise.f k a0 a1 = some r) (hr_ : r = true) :
    Calls Tryd.prog 3 #[.int .i64 a0, .int .i64 a1] w fun e w' => e = .returned (.bool r) ∧ Below w.heap.size w w' := by
  have hu28 := Tryd.underlying28
  have HB := Aside0.mk (Below.refl w.heap.size w)
  have H : ((chirographkeep_picked.f a0 1125899906842624).bind fun t114 => ((chirographkeep_picked.f a1 1125899906842624).bind fun t115 => ((chirographkeep_whole.f k (wrap64 (t114 - 562949953421312))).bind fun bt116 => ((chirographkeep_whole.f k (wrap64 (t115 - 562949953421312))).bind fun bt120 => ((value_Compare.f k bt116.1 bt116.2.1 bt116.2.2.1 bt116.2.2.2 bt120.1 bt120.2.1 bt120.2.2.1 bt120.2.2.2).bind fun bt124 => ((value_Compare.f k 2 (wrap64 (t114 - 562949953421312)) 0 (⟨#[]⟩ : ByteArray) 2 (wrap64 (t115 - 562949953421312)) 0 (⟨#[]⟩ : ByteArray)).bind fun bt126 => (if bt124.2 = 0 then (if bt126.2 = 0 then (if bt124.1 = bt126.1 then (if (wrap64 (t114 - 562949953421312)) = (wrap64 (t115 - 562949953421312)) then (some true) else (some (bt124.1 != 0))) else (some false)) else (some false)) else (some false)))))))) = some r := h
  clear h
  replace H := Option.bind_eq_some_iff.mp H
  obtain ⟨t114, A30, H⟩ := H
  replace H : ((chirographkeep_picked.f a1 1125899906842624).bind fun t115 => ((chirographkeep_whole.f k (wrap64 (t114 - 562949953421312))).bind fun bt116 => ((chirographkeep_whole.f k (wrap64 (t115 - 562949953421312))).bind fun bt120 => ((value_Compare.f k bt116.1 bt116.2.1 bt116.2.2.1 bt116.2.2.2 bt120.1 bt120.2.1 bt120.2.2.1 bt120.2.2.2).bind fun bt124 => ((value_Compare.f k 2 (wrap64 (t114 - 562949953421312)) 0 (⟨#[]⟩ : ByteArray) 2 (wrap64 (t115 - 562949953421312)) 0 (⟨#[]⟩ : ByteArray)).bind fun bt126 => (if bt124.2 = 0 then (if bt126.2 = 0 then (if bt124.1 = bt126.1 then (if (wrap64 (t114 - 562949953421312)) = (wrap64 (t115 - 562949953421312)) then (some true) else (some (bt124.1 != 0))) else (some false)) else (some false)) else (some false))))))) = some r := H
  have A3 := Aside0.mk A30
  clear A30
  replace H := Option.bind_eq_some_iff.mp H
  obtain ⟨t115, A40, H⟩ := H
  replace H : ((chirographkeep_whole.f k (wrap64 (t114 - 562949953421312))).bind fun bt116 => ((chirographkeep_whole.f k (wrap64 (t115 - 562949953421312))).bind fun bt120 => ((value_Compare.f k bt116.1 bt116.2.1 bt116.2.2.1 bt116.2.2.2 bt120.1 bt120.2.1 bt120.2.2.1 bt120.2.2.2).bind fun bt124 => ((value_Compare.f k 2 (wrap64 (t114 - 562949953421312)) 0 (⟨#[]⟩ : ByteArray) 2 (wrap64 (t115 - 562949953421312)) 0 (⟨#[]⟩ : ByteArray)).bind fun bt126 => (if bt124.2 = 0 then (if bt126.2 = 0 then (if bt124.1 = bt126.1 then (if (wrap64 (t114 - 562949953421312)) = (wrap64 (t115 - 562949953421312)) then (some true) else (some (bt124.1 != 0))) else (some false)) else (some false)) else (some false)))))) = some r := H
  have A4 := Aside0.mk A40
  clear A40
  replace H := Option.bind_eq_some_iff.mp H
  obtain ⟨⟨t116, t117, t118, t119⟩, A50, H⟩ := H
  replace H : ((chirographkeep_whole.f k (wrap64 (t115 - 562949953421312))).bind fun bt120 => ((value_Compare.f k t116 t117 t118 t119 bt120.1 bt120.2.1 bt120.2.2.1 bt120.2.2.2).bind fun bt124 => ((value_Compare.f k 2 (wrap64 (t114 - 562949953421312)) 0 (⟨#[]⟩ : ByteArray) 2 (wrap64 (t115 - 562949953421312)) 0 (⟨#[]⟩ : ByteArray)).bind fun bt126 => (if bt124.2 = 0 then (if bt126.2 = 0 then (if bt124.1 = bt126.1 then (if (wrap64 (t114 - 562949953421312)) = (wrap64 (t115 - 562949953421312)) then (some true) else (some (bt124.1 != 0))) else (some false)) else (some false)) else (some false))))) = some r := H
  have A5 := Aside0.mk A50
  clear A50
  replace H := Option.bind_eq_some_iff.mp H
  obtain ⟨⟨t120, t121, t122, t123⟩, A60, H⟩ := H
  replace H : ((value_Compare.f k t116 t117 t118 t119 t120 t121 t122 t123).bind fun bt124 => ((value_Compare.f k 2 (wrap64 (t114 - 562949953421312)) 0 (⟨#[]⟩ : ByteArray) 2 (wrap64 (t115 - 562949953421312)) 0 (⟨#[]⟩ : ByteArray)).bind fun bt126 => (if bt124.2 = 0 then (if bt126.2 = 0 then (if bt124.1 = bt126.1 then (if (wrap64 (t114 - 562949953421312)) = (wrap64 (t115 - 562949953421312)) then (some true) else (some (bt124.1 != 0))) else (some false)) else (some false)) else (some false)))) = some r := H
  have A6 := Aside0.mk A60
  clear A60
  replace H := Option.bind_eq_some_iff.mp H
  obtain ⟨⟨t124, t125⟩, A70, H⟩ := H
  replace H : ((value_Compare.f k 2 (wrap64 (t114 - 562949953421312)) 0 (⟨#[]⟩ : ByteArray) 2 (wrap64 (t115 - 562949953421312)) 0 (⟨#[]⟩ : ByteArray)).bind fun bt126 => (if t125 = 0 then (if bt126.2 = 0 then (if t124 = bt126.1 then (if (wrap64 (t114 - 562949953421312)) = (wrap64 (t115 - 562949953421312)) then (some true) else (some (t124 != 0))) else (some false)) else (some false)) else (some false))) = some r := H
  have A7 := Aside0.mk A70
  clear A70
  replace H := Option.bind_eq_some_iff.mp H
  obtain ⟨⟨t126, t127⟩, A80, H⟩ := H
  replace H : (if t125 = 0 then (if t127 = 0 then (if t124 = t126 then (if (wrap64 (t114 - 562949953421312)) = (wrap64 (t115 - 562949953421312)) then (some true) else (some (t124 != 0))) else (some false)) else (some false)) else (some false)) = some r := H
  have A8 := Aside0.mk A80
  clear A80
  by_cases c9 : t125 = 0
  · rw [if_pos c9] at H
    have c9b0 : (t125 == 0) = true := beq_iff_eq.mpr c9
    have c9b1 : (t125 != 0) = false := bne_eq_false_iff_eq.mpr c9
    clear c9
    by_cases c10 : t127 = 0
    · rw [if_pos c10] at H
      have c10b0 : (t127 == 0) = true := beq_iff_eq.mpr c10
      have c10b1 : (t127 != 0) = false := bne_eq_false_iff_eq.mpr c10
      clear c10
      by_cases c11 : t124 = t126
      · rw [if_pos c11] at H
        have c11b0 : (t124 == t126) = true := beq_iff_eq.mpr c11
        have c11b1 : (t124 != t126) = false := bne_eq_false_iff_eq.mpr c11
        clear c11
        by_cases c12 : (wrap64 (t114 - 562949953421312)) = (wrap64 (t115 - 562949953421312))
        · rw [if_pos c12] at H
          have c12b0 : ((wrap64 (t114 - 562949953421312)) == (wrap64 (t115 - 562949953421312))) = true := beq_iff_eq.mpr c12
          have c12b1 : ((wrap64 (t114 - 562949953421312)) != (wrap64 (t115 - 562949953421312))) = false := bne_eq_false_iff_eq.mpr c12
          clear c12
          obtain rfl := Option.some.inj H
          go_enter Tryd.func3, Tryd.ntmps3
          go_wp2_with (first | ((with_reducible refine gate_callee (f := 10) rfl ?_); refine goesL_ (some 12) rfl rfl Tryd.func10 (by kernel_rfl) rfl #[.int .i64 a0, .int .i64 1125899906842624] rfl (by (try simp only [List.map_toArray, List.map_cons, List.map_nil]); first | done | rfl | (simp only [List.length_drop, List.length_take]; rfl)) ?_; (with_reducible refine (chirographkeep_picked.calls a0 1125899906842624 t114 _ A3.out).mono ?_); rintro e w' ⟨rfl, ⟨nd, rfl⟩⟩; refine ⟨_, rfl, ?_⟩) | ((with_reducible refine gate_callee (f := 10) rfl ?_); refine goesL_ (some 15) rfl rfl Tryd.func10 (by kernel_rfl) rfl #[.int .i64 a1, .int .i64 1125899906842624] rfl (by (try simp only [List.map_toArray, List.map_cons, List.map_nil]); first | done | rfl | (simp only [List.length_drop, List.length_take]; rfl)) ?_; (with_reducible refine (chirographkeep_picked.calls a1 1125899906842624 t115 _ A4.out).mono ?_); rintro e w' ⟨rfl, ⟨nd, rfl⟩⟩; refine ⟨_, rfl, ?_⟩) | ((with_reducible refine gate_callee (f := 12) rfl ?_); refine goesL_ (some 19) rfl rfl Tryd.func12 (by kernel_rfl) rfl #[.int .i64 (wrap64 (t114 - 562949953421312))] rfl (by (try simp only [List.map_toArray, List.map_cons, List.map_nil]); first | done | rfl | (simp only [List.length_drop, List.length_take]; rfl)) ?_; (with_reducible refine (chirographkeep_whole.calls k (wrap64 (t114 - 562949953421312)) t116 t117 t118 t119 _ A5.out).mono ?_); rintro e w13 ⟨rfl, hb⟩; refine ⟨_, rfl, ?_⟩; have n0_ := Aside0.mk (below_step (by repeat (first | (with_reducible first | exact HB.out | apply below_alloc | apply pw_below_drewN | apply below_drew1) | exact HB.out)) hb); clear HB; have HB := n0_; clear n0_; (try clear hb); (try clear hb2); (try clear hk); (try clear hi)) | ((with_reducible refine gate_callee (f := 12) rfl ?_); refine goesL_ (some 21) rfl rfl Tryd.func12 (by kernel_rfl) rfl #[.int .i64 (wrap64 (t115 - 562949953421312))] rfl (by (try simp only [List.map_toArray, List.map_cons, List.map_nil]); first | done | rfl | (simp only [List.length_drop, List.length_take]; rfl)) ?_; (with_reducible refine (chirographkeep_whole.calls k (wrap64 (t115 - 562949953421312)) t120 t121 t122 t123 _ A6.out).mono ?_); rintro e w14 ⟨rfl, hb⟩; refine ⟨_, rfl, ?_⟩; have n0_ := Aside0.mk (below_step (by repeat (first | (with_reducible first | exact HB.out | apply below_alloc | apply pw_below_drewN | apply below_drew1) | exact HB.out)) hb); clear HB; have HB := n0_; clear n0_; (try clear hb); (try clear hb2); (try clear hk); (try clear hi)) | ((with_reducible refine gate_callee (f := 11) rfl ?_); refine goesL_ (some 22) rfl rfl Tryd.func11 (by kernel_rfl) rfl #[.agg #[.int .i64 t116, .int .i64 t117, .int .u64 t118, .string t119], .agg #[.int .i64 t120, .int .i64 t121, .int .u64 t122, .string t123]] rfl (by (try simp only [List.map_toArray, List.map_cons, List.map_nil]); first | done | rfl | (simp only [List.length_drop, List.length_take]; rfl)) ?_; (with_reducible refine (value_Compare.calls k t116 t117 t118 t119 t120 t121 t122 t123 t124 t125 _ A7.out).mono ?_); rintro e w15 ⟨rfl, hb⟩; refine ⟨_, rfl, ?_⟩; have n0_ := Aside0.mk (below_step (by repeat (first | (with_reducible first | exact HB.out | apply below_alloc | apply pw_below_drewN | apply below_drew1) | exact HB.out)) hb); clear HB; have HB := n0_; clear n0_; (try clear hb); (try clear hb2); (try clear hk); (try clear hi)) | ((with_reducible refine gate_callee (f := 11) rfl ?_); refine goesL_ (some 30) rfl rfl Tryd.func11 (by kernel_rfl) rfl #[.agg #[.int .i64 2, .int .i64 (wrap64 (t114 - 562949953421312)), .int .u64 0, .string (⟨#[]⟩ : ByteArray)], .agg #[.int .i64 2, .int .i64 (wrap64 (t115 - 562949953421312)), .int .u64 0, .string (⟨#[]⟩ : ByteArray)]] rfl (by (try simp only [List.map_toArray, List.map_cons, List.map_nil]); first | done | rfl | (simp only [List.length_drop, List.length_take]; rfl)) ?_; (with_reducible refine (value_Compare.calls k 2 (wrap64 (t114 - 562949953421312)) 0 (⟨#[]⟩ : ByteArray) 2 (wrap64 (t115 - 562949953421312)) 0 (⟨#[]⟩ : ByteArray) t126 t127 _ A8.out).mono ?_); rintro e w16 ⟨rfl, hb⟩; refine ⟨_, rfl, ?_⟩; have n0_ := Aside0.mk (below_step (by repeat (first | (with_reducible first | exact HB.out | apply below_alloc | apply pw_below_drewN | apply below_drew1) | exact HB.out)) hb); clear HB; have HB := n0_; clear n0_; (try clear hb); (try clear hb2); (try clear hk); (try clear hi)))
          go_ret
          exact ⟨by first | rfl | (simp [errW_none, errW_some] <;> rfl) | (simp [*, errW_none, errW_some] <;> rfl), by repeat (first | (with_reducible first | exact HB.out | apply below_alloc | apply pw_below_drewN | apply below_drew1) | exact HB.out)⟩
        · rw [if_neg c12] at H
          have c12b0 : ((wrap64 (t114 - 562949953421312)) == (wrap64 (t115 - 562949953421312))) = false := beq_eq_false_iff_ne.mpr c12
          have c12b1 : ((wrap64 (t114 - 562949953421312)) != (wrap64 (t115 - 562949953421312))) = true := bne_iff_ne.mpr c12
          obtain rfl := Option.some.inj H
          go_enter Tryd.func3, Tryd.ntmps3
          go_wp2_with (first | ((with_reducible refine gate_callee (f := 10) rfl ?_); refine goesL_ (some 12) rfl rfl Tryd.func10 (by kernel_rfl) rfl #[.int .i64 a0, .int .i64 1125899906842624] rfl (by (try simp only [List.map_toArray, List.map_cons, List.map_nil]); first | done | rfl | (simp only [List.length_drop, List.length_take]; rfl)) ?_; (with_reducible refine (chirographkeep_picked.calls a0 1125899906842624 t114 _ A3.out).mono ?_); rintro e w' ⟨rfl, ⟨nd, rfl⟩⟩; refine ⟨_, rfl, ?_⟩) | ((with_reducible refine gate_callee (f := 10) rfl ?_); refine goesL_ (some 15) rfl rfl Tryd.func10 (by kernel_rfl) rfl #[.int .i64 a1, .int .i64 1125899906842624] rfl (by (try simp only [List.map_toArray, List.map_cons, List.map_nil]); first | done | rfl | (simp only [List.length_drop, List.length_take]; rfl)) ?_; (with_reducible refine (chirographkeep_picked.calls a1 1125899906842624 t115 _ A4.out).mono ?_); rintro e w' ⟨rfl, ⟨nd, rfl⟩⟩; refine ⟨_, rfl, ?_⟩) | ((with_reducible refine gate_callee (f := 12) rfl ?_); refine goesL_ (some 19) rfl rfl Tryd.func12 (by kernel_rfl) rfl #[.int .i64 (wrap64 (t114 - 562949953421312))] rfl (by (try simp only [List.map_toArray, List.map_cons, List.map_nil]); first | done | rfl | (simp only [List.length_drop, List.length_take]; rfl)) ?_; (with_reducible refine (chirographkeep_whole.calls k (wrap64 (t114 - 562949953421312)) t116 t117 t118 t119 _ A5.out).mono ?_); rintro e w17 ⟨rfl, hb⟩; refine ⟨_, rfl, ?_⟩; have n0_ := Aside0.mk (below_step (by repeat (first | (with_reducible first | exact HB.out | apply below_alloc | apply pw_below_drewN | apply below_drew1) | exact HB.out)) hb); clear HB; have HB := n0_; clear n0_; (try clear hb); (try clear hb2); (try clear hk); (try clear hi)) | ((with_reducible refine gate_callee (f := 12) rfl ?_); refine goesL_ (some 21) rfl rfl Tryd.func12 (by kernel_rfl) rfl #[.int .i64 (wrap64 (t115 - 562949953421312))] rfl (by (try simp only [List.map_toArray, List.map_cons, List.map_nil]); first | done | rfl | (simp only [List.length_drop, List.length_take]; rfl)) ?_; (with_reducible refine (chirographkeep_whole.calls k (wrap64 (t115 - 562949953421312)) t120 t121 t122 t123 _ A6.out).mono ?_); rintro e w18 ⟨rfl, hb⟩; refine ⟨_, rfl, ?_⟩; have n0_ := Aside0.mk (below_step (by repeat (first | (with_reducible first | exact HB.out | apply below_alloc | apply pw_below_drewN | apply below_drew1) | exact HB.out)) hb); clear HB; have HB := n0_; clear n0_; (try clear hb); (try clear hb2); (try clear hk); (try clear hi)) | ((with_reducible refine gate_callee (f := 11) rfl ?_); refine goesL_ (some 22) rfl rfl Tryd.func11 (by kernel_rfl) rfl #[.agg #[.int .i64 t116, .int .i64 t117, .int .u64 t118, .string t119], .agg #[.int .i64 t120, .int .i64 t121, .int .u64 t122, .string t123]] rfl (by (try simp only [List.map_toArray, List.map_cons, List.map_nil]); first | done | rfl | (simp only [List.length_drop, List.length_take]; rfl)) ?_; (with_reducible refine (value_Compare.calls k t116 t117 t118 t119 t120 t121 t122 t123 t124 t125 _ A7.out).mono ?_); rintro e w19 ⟨rfl, hb⟩; refine ⟨_, rfl, ?_⟩; have n0_ := Aside0.mk (below_step (by repeat (first | (with_reducible first | exact HB.out | apply below_alloc | apply pw_below_drewN | apply below_drew1) | exact HB.out)) hb); clear HB; have HB := n0_; clear n0_; (try clear hb); (try clear hb2); (try clear hk); (try clear hi)) | ((with_reducible refine gate_callee (f := 11) rfl ?_); refine goesL_ (some 30) rfl rfl Tryd.func11 (by kernel_rfl) rfl #[.agg #[.int .i64 2, .int .i64 (wrap64 (t114 - 562949953421312)), .int .u64 0, .string (⟨#[]⟩ : ByteArray)], .agg #[.int .i64 2, .int .i64 (wrap64 (t115 - 562949953421312)), .int .u64 0, .string (⟨#[]⟩ : ByteArray)]] rfl (by (try simp only [List.map_toArray, List.map_cons, List.map_nil]); first | done | rfl | (simp only [List.length_drop, List.length_take]; rfl)) ?_; (with_reducible refine (value_Compare.calls k 2 (wrap64 (t114 - 562949953421312)) 0 (⟨#[]⟩ : ByteArray) 2 (wrap64 (t115 - 562949953421312)) 0 (⟨#[]⟩ : ByteArray) t126 t127 _ A8.out).mono ?_); rintro e w20 ⟨rfl, hb⟩; refine ⟨_, rfl, ?_⟩; have n0_ := Aside0.mk (below_step (by repeat (first | (with_reducible first | exact HB.out | apply below_alloc | apply pw_below_drewN | apply below_drew1) | exact HB.out)) hb); clear HB; have HB := n0_; clear n0_; (try clear hb); (try clear hb2); (try clear hk); (try clear hi)))
          go_ret
          exact ⟨by first | rfl | (simp [errW_none, errW_some] <;> rfl) | (simp [*, errW_none, errW_some] <;> rfl), by repeat (first | (with_reducible first | exact HB.out | apply below_alloc | apply pw_below_drewN | apply below_drew1) | exact HB.out)⟩
      · rw [if_neg c11] at H
        have c11b0 : (t124 == t126) = false := beq_eq_false_iff_ne.mpr c11
        have c11b1 : (t124 != t126) = true := bne_iff_ne.mpr c11
        exact absurd (Option.some.inj H) (by rw [hr_]; decide)
    · rw [if_neg c10] at H
      have c10b0 : (t127 == 0) = false := beq_eq_false_iff_ne.mpr c10
      have c10b1 : (t127 != 0) = true := bne_iff_ne.mpr c10
      exact absurd (Option.some.inj H) (by rw [hr_]; decide)
  · rw [if_neg c9] at H
    have c9b0 : (t125 == 0) = false := beq_eq_false_iff_ne.mpr c9
    have c9b1 : (t125 != 0) = true := bne_iff_ne.mpr c9
    exact absurd (Option.some.inj H) (by rw [hr_]; decide)

/-- THE ONE PURE STATEMENT of chirographkeep_RealsRise. -/
def chirographkeep_RealsRise.Pure : Prop := ∀ (a0 : Int) (a1 : Int), (Lit.int .i64 a0).wf = true → (Lit.int .i64 a1).wf = true → ∃ k, chirographkeep_RealsRise.f k a0 a1 = some true

end Go.Proofs.YtpgegljlgicpkaaDoor.QRealsRise
