-- WRITTEN BY mkprint.py, a program of this session (out of the translation). Lean checks it.
import Derived.Test.YtpgegljlgicpkaaDoorQSlotsApartx0
import Derived.Test.YtpgegljlgicpkaaDoorQSlotsApartx1
import Derived.Test.YtpgegljlgicpkaaDoorQSlotsApartx2
import Derived.Test.YtpgegljlgicpkaaDoorQSlotsApartx3
import Derived.Test.YtpgegljlgicpkaaDoorQSlotsApartx5
namespace Go.Proofs.YtpgegljlgicpkaaDoor.QSlotsApart
open Go.RowKit Go.Proofs.YtpgegljlgicpkaaDoorW.PrintWords Go.Proofs.YtpgegljlgicpkaaDoorW.PrintLast Go.Proofs.YtpgegljlgicpkaaDoorW.PrintMore
attribute [local go_sem] max2_int min2_int max_two min_two max_three min_three max_four min_four   -- for this text's walks alone
set_option linter.unusedVariables false
set_option linter.unusedSimpArgs false

/-! ### chirographkeep_SlotsApart: function 5 -/
def chirographkeep_SlotsApart.f (k : Nat) (l0 : List (S40)) (a1 : Int) (a2_0 : Int) (a2_1 : Int) (a2_2 : Int) (a2_3 : ByteArray) : Option (Bool) := (chirographkeep_slotsOf.f k l0).bind fun t211 => ((some (([] : List (S44)) : List (S44))).bind fun y214 => (if y214.length + t211.length < 2513169434916 then ((some (y214 ++ t211 : List (S44))).bind fun y217 => ((chirographkeep_picked.f a1 (t211.length : Int)).bind fun t220 => ((chirographkeep_slotOf.f a2_0 a2_1 a2_2 a2_3).bind fun bt221 => (if 0 ≤ t220 then (if t220 < (y217.length : Int) then ((some (y217.set (t220 : Int).toNat (⟨bt221.1, bt221.2.1, bt221.2.2⟩ : S44) : List (S44))).bind fun y228 => ((slots_Root.f k 2 t211).bind fun bt229 => ((slots_Root.f k 2 y228).bind fun bt233 => (if bt229.2 = 0 then (if bt233.2 = 0 then (if (bt229.1.length : Int) > 0 then (if t220 < (t211.length : Int) then ((chirographkeep_sameSlot.f ((rd_T44 t211 t220).f0) ((rd_T44 t211 t220).f1) ((rd_T44 t211 t220).f2) ((rd_T44 y228 t220).f0) ((rd_T44 y228 t220).f1) ((rd_T44 y228 t220).f2)).bind fun t239 => (some (((strOfNums bt229.1).toList == (strOfNums bt233.1).toList) == t239))) else (none)) else (some false)) else (some false)) else (some false))))) else (none)) else (none))))) else (none)))
theorem chirographkeep_SlotsApart.mono : ∀ a0 a1 a2 a3 a4 a5 k, LeO (chirographkeep_SlotsApart.f k a0 a1 a2 a3 a4 a5) (chirographkeep_SlotsApart.f (k + 1) a0 a1 a2 a3 a4 a5) := by
  intro a0 a1 a2 a3 a4 a5 k
  unfold chirographkeep_SlotsApart.f
  repeat' first
      | (with_reducible exact chirographkeep_slotsOf.mono _ _)
      | (with_reducible exact slots_Root.mono _ _ _)
      | (with_reducible exact LeO.refl _)
      | (with_reducible exact LeO.none _)
      | (with_reducible refine LeO.ite ?_ ?_)
      | (with_reducible refine LeO.bind ?_ (fun _ => ?_))
      | exact chirographkeep_slotsOf.mono _ _
      | exact slots_Root.mono _ _ _
      | exact LeO.none _
      | refine LeO.ite ?_ ?_
      | refine LeO.bind ?_ (fun _ => ?_)
def chirographkeep_SlotsApart.T7 : Bool × List (List Nat × List Nat) := (true, [([], []), ([0], [0]), ([1], [1]), ([2], [2]), ([3, 2], [2, 3]), ([2, 4], [2, 4]), ([5, 2], [5]), ([6], [6]), ([7, 6], [6, 7]), ([8, 6], [6, 8]), ([6, 9], [6, 9]), ([10, 6], [10]), ([11], [11]), ([12, 11], [11, 12]), ([11], [11]), ([14, 11], [11, 14]), ([13, 15, 11], [11, 13, 15]), ([11], [11]), ([11], [11]), ([17, 18, 11], [11, 17, 18]), ([19, 11], [11, 19]), ([11], [11]), ([11], [11]), ([21, 22, 11], [11, 21, 22]), ([23, 11], [11, 23]), ([20, 24, 11, 11], [11, 20, 24]), ([16, 25, 11], [11, 16, 25]), ([11, 26], [11, 26]), ([27, 25, 0, 1, 2, 3, 4, 5, 6, 7, 8, 9, 10, 11, 12, 13, 14, 15, 16, 17, 18, 19, 20, 21, 22, 23, 24, 25, 26, 27], [27])])
def chirographkeep_SlotsApart.B7 : List Nat := [0, 1, 3, 7, 15, 31, 63, 127, 255, 511, 1023, 2047, 4095, 8191, 4095, 20479, 65535, 4095, 4095, 397311, 921599, 4095, 4095, 6295551, 14684159, 33427455, 67108863, 134217727, 268435455]
theorem chirographkeep_SlotsApart.tab7 : rtab .any (opsOf Tryd.f5 7) = chirographkeep_SlotsApart.T7 := by kernel_rfl
theorem chirographkeep_SlotsApart.bits7 : waitsOk chirographkeep_SlotsApart.T7.2 chirographkeep_SlotsApart.B7 = true := by kernel_rfl
set_option maxHeartbeats 8000000 in
set_option maxRecDepth 100000 in
theorem chirographkeep_SlotsApart.calls (k : Nat) (A0 : Option Addr) (c0 : Nat) (l0 : List (S40)) (a1 : Int) (a2_0 : Int) (a2_1 : Int) (a2_2 : Int) (a2_3 : ByteArray) (r : Bool) (w : World) (hr0 : Kd.C k40 w A0 l0.length l0) (hc0 : l0.length ≤ c0) (h : chirographkeep_SlotsApart.f k l0 a1 a2_0 a2_1 a2_2 a2_3 = some r) (hr_ : r = true) :
    Calls Tryd.prog 5 #[.slice A0 l0.length c0, .int .i64 a1, .agg #[.int .i64 a2_0, .int .i64 a2_1, .int .i64 a2_2, .string a2_3]] w fun e w' => e = .returned (.bool r) ∧ Below w.heap.size w w' := by
  have hu40 := Tryd.underlying40
  have hu44 := Tryd.underlying44
  have HR0 := Aside0.mk hr0
  have HC0 := Aside0.mk hc0
  clear hr0 hc0
  have HB := Aside0.mk (Below.refl w.heap.size w)
  have H : ((chirographkeep_slotsOf.f k l0).bind fun t211 => ((some (([] : List (S44)) : List (S44))).bind fun y214 => (if y214.length + t211.length < 2513169434916 then ((some (y214 ++ t211 : List (S44))).bind fun y217 => ((chirographkeep_picked.f a1 (t211.length : Int)).bind fun t220 => ((chirographkeep_slotOf.f a2_0 a2_1 a2_2 a2_3).bind fun bt221 => (if 0 ≤ t220 then (if t220 < (y217.length : Int) then ((some (y217.set (t220 : Int).toNat (⟨bt221.1, bt221.2.1, bt221.2.2⟩ : S44) : List (S44))).bind fun y228 => ((slots_Root.f k 2 t211).bind fun bt229 => ((slots_Root.f k 2 y228).bind fun bt233 => (if bt229.2 = 0 then (if bt233.2 = 0 then (if (bt229.1.length : Int) > 0 then (if t220 < (t211.length : Int) then ((chirographkeep_sameSlot.f ((rd_T44 t211 t220).f0) ((rd_T44 t211 t220).f1) ((rd_T44 t211 t220).f2) ((rd_T44 y228 t220).f0) ((rd_T44 y228 t220).f1) ((rd_T44 y228 t220).f2)).bind fun t239 => (some (((strOfNums bt229.1).toList == (strOfNums bt233.1).toList) == t239))) else (none)) else (some false)) else (some false)) else (some false))))) else (none)) else (none))))) else (none)))) = some r := h
  clear h
  replace H := Option.bind_eq_some_iff.mp H
  obtain ⟨t211, A40, H⟩ := H
  replace H : ((some (([] : List (S44)) : List (S44))).bind fun y214 => (if y214.length + t211.length < 2513169434916 then ((some (y214 ++ t211 : List (S44))).bind fun y217 => ((chirographkeep_picked.f a1 (t211.length : Int)).bind fun t220 => ((chirographkeep_slotOf.f a2_0 a2_1 a2_2 a2_3).bind fun bt221 => (if 0 ≤ t220 then (if t220 < (y217.length : Int) then ((some (y217.set (t220 : Int).toNat (⟨bt221.1, bt221.2.1, bt221.2.2⟩ : S44) : List (S44))).bind fun y228 => ((slots_Root.f k 2 t211).bind fun bt229 => ((slots_Root.f k 2 y228).bind fun bt233 => (if bt229.2 = 0 then (if bt233.2 = 0 then (if (bt229.1.length : Int) > 0 then (if t220 < (t211.length : Int) then ((chirographkeep_sameSlot.f ((rd_T44 t211 t220).f0) ((rd_T44 t211 t220).f1) ((rd_T44 t211 t220).f2) ((rd_T44 y228 t220).f0) ((rd_T44 y228 t220).f1) ((rd_T44 y228 t220).f2)).bind fun t239 => (some (((strOfNums bt229.1).toList == (strOfNums bt233.1).toList) == t239))) else (none)) else (some false)) else (some false)) else (some false))))) else (none)) else (none))))) else (none))) = some r := H
  have A4 := Aside0.mk A40
  clear A40
  obtain ⟨y214, hy214⟩ : ∃ y_ : List (S44), y_ = (([] : List (S44))) := ⟨_, rfl⟩
  replace H : (if y214.length + t211.length < 2513169434916 then ((some (y214 ++ t211 : List (S44))).bind fun y217 => ((chirographkeep_picked.f a1 (t211.length : Int)).bind fun t220 => ((chirographkeep_slotOf.f a2_0 a2_1 a2_2 a2_3).bind fun bt221 => (if 0 ≤ t220 then (if t220 < (y217.length : Int) then ((some (y217.set (t220 : Int).toNat (⟨bt221.1, bt221.2.1, bt221.2.2⟩ : S44) : List (S44))).bind fun y228 => ((slots_Root.f k 2 t211).bind fun bt229 => ((slots_Root.f k 2 y228).bind fun bt233 => (if bt229.2 = 0 then (if bt233.2 = 0 then (if (bt229.1.length : Int) > 0 then (if t220 < (t211.length : Int) then ((chirographkeep_sameSlot.f ((rd_T44 t211 t220).f0) ((rd_T44 t211 t220).f1) ((rd_T44 t211 t220).f2) ((rd_T44 y228 t220).f0) ((rd_T44 y228 t220).f1) ((rd_T44 y228 t220).f2)).bind fun t239 => (some (((strOfNums bt229.1).toList == (strOfNums bt233.1).toList) == t239))) else (none)) else (some false)) else (some false)) else (some false))))) else (none)) else (none))))) else (none)) = some r := by first | (rw [hy214]; with_reducible exact H) | (have H2_ := (Option.bind_some _ _).symm.trans H; rw [hy214]; with_reducible exact H2_) | (have H2_ := (Option.bind_some _ _).symm.trans H; with_reducible exact H2_) | with_reducible exact H | (rw [hy214]; exact H) | exact H
  have Ny214 := Aside0.mk hy214
  clear hy214
  by_cases c5 : y214.length + t211.length < 2513169434916
  · rw [if_pos c5] at H
    have LMc5 := Aside0.mk c5
    clear c5
    obtain ⟨y217, hy217⟩ : ∃ y_ : List (S44), y_ = (y214 ++ t211) := ⟨_, rfl⟩
    replace H : ((chirographkeep_picked.f a1 (t211.length : Int)).bind fun t220 => ((chirographkeep_slotOf.f a2_0 a2_1 a2_2 a2_3).bind fun bt221 => (if 0 ≤ t220 then (if t220 < (y217.length : Int) then ((some (y217.set (t220 : Int).toNat (⟨bt221.1, bt221.2.1, bt221.2.2⟩ : S44) : List (S44))).bind fun y228 => ((slots_Root.f k 2 t211).bind fun bt229 => ((slots_Root.f k 2 y228).bind fun bt233 => (if bt229.2 = 0 then (if bt233.2 = 0 then (if (bt229.1.length : Int) > 0 then (if t220 < (t211.length : Int) then ((chirographkeep_sameSlot.f ((rd_T44 t211 t220).f0) ((rd_T44 t211 t220).f1) ((rd_T44 t211 t220).f2) ((rd_T44 y228 t220).f0) ((rd_T44 y228 t220).f1) ((rd_T44 y228 t220).f2)).bind fun t239 => (some (((strOfNums bt229.1).toList == (strOfNums bt233.1).toList) == t239))) else (none)) else (some false)) else (some false)) else (some false))))) else (none)) else (none)))) = some r := by first | (rw [hy217]; with_reducible exact H) | (have H2_ := (Option.bind_some _ _).symm.trans H; rw [hy217]; with_reducible exact H2_) | (have H2_ := (Option.bind_some _ _).symm.trans H; with_reducible exact H2_) | with_reducible exact H | (rw [hy217]; exact H) | exact H
    have Ny217 := Aside0.mk hy217
    clear hy217
    replace H := Option.bind_eq_some_iff.mp H
    obtain ⟨t220, A60, H⟩ := H
    replace H : ((chirographkeep_slotOf.f a2_0 a2_1 a2_2 a2_3).bind fun bt221 => (if 0 ≤ t220 then (if t220 < (y217.length : Int) then ((some (y217.set (t220 : Int).toNat (⟨bt221.1, bt221.2.1, bt221.2.2⟩ : S44) : List (S44))).bind fun y228 => ((slots_Root.f k 2 t211).bind fun bt229 => ((slots_Root.f k 2 y228).bind fun bt233 => (if bt229.2 = 0 then (if bt233.2 = 0 then (if (bt229.1.length : Int) > 0 then (if t220 < (t211.length : Int) then ((chirographkeep_sameSlot.f ((rd_T44 t211 t220).f0) ((rd_T44 t211 t220).f1) ((rd_T44 t211 t220).f2) ((rd_T44 y228 t220).f0) ((rd_T44 y228 t220).f1) ((rd_T44 y228 t220).f2)).bind fun t239 => (some (((strOfNums bt229.1).toList == (strOfNums bt233.1).toList) == t239))) else (none)) else (some false)) else (some false)) else (some false))))) else (none)) else (none))) = some r := H
    have A6 := Aside0.mk A60
    clear A60
    replace H := Option.bind_eq_some_iff.mp H
    obtain ⟨⟨t221, t222, t225⟩, A70, H⟩ := H
    replace H : (if 0 ≤ t220 then (if t220 < (y217.length : Int) then ((some (y217.set (t220 : Int).toNat (⟨t221, t222, t225⟩ : S44) : List (S44))).bind fun y228 => ((slots_Root.f k 2 t211).bind fun bt229 => ((slots_Root.f k 2 y228).bind fun bt233 => (if bt229.2 = 0 then (if bt233.2 = 0 then (if (bt229.1.length : Int) > 0 then (if t220 < (t211.length : Int) then ((chirographkeep_sameSlot.f ((rd_T44 t211 t220).f0) ((rd_T44 t211 t220).f1) ((rd_T44 t211 t220).f2) ((rd_T44 y228 t220).f0) ((rd_T44 y228 t220).f1) ((rd_T44 y228 t220).f2)).bind fun t239 => (some (((strOfNums bt229.1).toList == (strOfNums bt233.1).toList) == t239))) else (none)) else (some false)) else (some false)) else (some false))))) else (none)) else (none)) = some r := H
    have A7 := Aside0.mk A70
    clear A70
    by_cases c8 : 0 ≤ t220
    · rw [if_pos c8] at H
      have c8b0 : decide (0 ≤ t220) = true := decide_eq_true c8
      clear c8
      by_cases c9 : t220 < (y217.length : Int)
      · rw [if_pos c9] at H
        have c9b0 : decide (t220 < (y217.length : Int)) = true := decide_eq_true c9
        clear c9
        obtain ⟨y228, hy228⟩ : ∃ y_ : List (S44), y_ = (y217.set (t220 : Int).toNat (⟨t221, t222, t225⟩ : S44)) := ⟨_, rfl⟩
        replace H : ((slots_Root.f k 2 t211).bind fun bt229 => ((slots_Root.f k 2 y228).bind fun bt233 => (if bt229.2 = 0 then (if bt233.2 = 0 then (if (bt229.1.length : Int) > 0 then (if t220 < (t211.length : Int) then ((chirographkeep_sameSlot.f ((rd_T44 t211 t220).f0) ((rd_T44 t211 t220).f1) ((rd_T44 t211 t220).f2) ((rd_T44 y228 t220).f0) ((rd_T44 y228 t220).f1) ((rd_T44 y228 t220).f2)).bind fun t239 => (some (((strOfNums bt229.1).toList == (strOfNums bt233.1).toList) == t239))) else (none)) else (some false)) else (some false)) else (some false)))) = some r := by first | (rw [hy228]; with_reducible exact H) | (have H2_ := (Option.bind_some _ _).symm.trans H; rw [hy228]; with_reducible exact H2_) | (have H2_ := (Option.bind_some _ _).symm.trans H; with_reducible exact H2_) | with_reducible exact H | (rw [hy228]; exact H) | exact H
        have Ny228 := Aside0.mk hy228
        clear hy228
        replace H := Option.bind_eq_some_iff.mp H
        obtain ⟨⟨t229, t230⟩, A110, H⟩ := H
        replace H : ((slots_Root.f k 2 y228).bind fun bt233 => (if t230 = 0 then (if bt233.2 = 0 then (if (t229.length : Int) > 0 then (if t220 < (t211.length : Int) then ((chirographkeep_sameSlot.f ((rd_T44 t211 t220).f0) ((rd_T44 t211 t220).f1) ((rd_T44 t211 t220).f2) ((rd_T44 y228 t220).f0) ((rd_T44 y228 t220).f1) ((rd_T44 y228 t220).f2)).bind fun t239 => (some (((strOfNums t229).toList == (strOfNums bt233.1).toList) == t239))) else (none)) else (some false)) else (some false)) else (some false))) = some r := H
        have A11 := Aside0.mk A110
        clear A110
        replace H := Option.bind_eq_some_iff.mp H
        obtain ⟨⟨t233, t234⟩, A120, H⟩ := H
        replace H : (if t230 = 0 then (if t234 = 0 then (if (t229.length : Int) > 0 then (if t220 < (t211.length : Int) then ((chirographkeep_sameSlot.f ((rd_T44 t211 t220).f0) ((rd_T44 t211 t220).f1) ((rd_T44 t211 t220).f2) ((rd_T44 y228 t220).f0) ((rd_T44 y228 t220).f1) ((rd_T44 y228 t220).f2)).bind fun t239 => (some (((strOfNums t229).toList == (strOfNums t233).toList) == t239))) else (none)) else (some false)) else (some false)) else (some false)) = some r := H
        have A12 := Aside0.mk A120
        clear A120
        by_cases c13 : t230 = 0
        · rw [if_pos c13] at H
          have c13b0 : (t230 == 0) = true := beq_iff_eq.mpr c13
          have c13b1 : (t230 != 0) = false := bne_eq_false_iff_eq.mpr c13
          clear c13
          by_cases c14 : t234 = 0
          · rw [if_pos c14] at H
            have c14b0 : (t234 == 0) = true := beq_iff_eq.mpr c14
            have c14b1 : (t234 != 0) = false := bne_eq_false_iff_eq.mpr c14
            clear c14
            by_cases c15 : (t229.length : Int) > 0
            · rw [if_pos c15] at H
              have c15b0 : decide (0 < (t229.length : Int)) = true := decide_eq_true c15
              have c15b1 : decide (0 < t229.length) = true := decide_eq_true (by omega)
              clear c15
              by_cases c16 : t220 < (t211.length : Int)
              · rw [if_pos c16] at H
                have c16b0 : decide (t220 < (t211.length : Int)) = true := decide_eq_true c16
                clear c16
                replace H := Option.bind_eq_some_iff.mp H
                obtain ⟨t239, A170, H⟩ := H
                replace H : (some (((strOfNums t229).toList == (strOfNums t233).toList) == t239)) = some r := H
                have A17 := Aside0.mk A170
                clear A170
                obtain rfl := Option.some.inj H
                go_enter Tryd.func5, Tryd.ntmps5
                try go_wp2_with (first | ((with_reducible refine gate_dst (N := 5) rfl ?_); (try (refine gate_guard (by rfl) ?_; dsimp only)); refine box_event ?hg (N := 5) ?hd (cs := #[.int .i64 a2_0, .int .i64 a2_1, .int .i64 a2_2, .string a2_3]) (t := 40) ?hr ?_; (case hd => rfl); (case hg => rfl); (case hr => first | (go_simp; done) | (go_simp; rfl)); intro gb210 hg w18 hbox hb; have n0_ := Aside0.mk (below_step (by repeat (first | (with_reducible first | exact HB.out | apply below_alloc | apply pw_below_drewN | apply below_drew1) | exact HB.out)) hb); have n1_ := Aside0.mk (hbox); have n2_ := Aside0.mk ((by rw [hg]; exact (below_size (by repeat (first | (with_reducible first | exact HB.out | apply below_alloc | apply pw_below_drewN | apply below_drew1) | exact HB.out))) : w.heap.size ≤ gb210)); have n3_ := Aside0.mk ((by rw [hg]; exact (below_size (by repeat (first | (with_reducible first | exact HB.out | apply below_alloc | apply pw_below_drewN | apply below_drew1) | exact HB.out))) : w.heap.size ≤ gb210)); clear HB; have HB := n0_; have BK210 := n1_; have GW210 := n2_; have GE210 := n3_; clear n0_ n1_ n2_ n3_; clear hb hbox hg) | ((with_reducible refine gate_callee (f := 16) rfl ?_); refine goesL_ (some 15) rfl rfl Tryd.func16 (by kernel_rfl) rfl #[.slice A0 l0.length c0] rfl (by (try simp only [List.map_toArray, List.map_cons, List.map_nil]); first | done | rfl | (simp only [List.length_drop, List.length_take]; rfl)) ?_; (with_reducible refine (chirographkeep_slotsOf.calls k _ _ l0 t211 _ ?side1 ?side2 A4.out).mono ?_); (case side1 => repeat (first | exact (Kd.C_below HR0.out HB.out) | (with_reducible refine Kd.C_alloc ?_ _) | (with_reducible refine Kd.C_drewN ?_ _) | (with_reducible refine Kd.C_drew ?_))); (case side2 => exact HC0.out); rintro e w19 ⟨v212, rfl, ho0, hb⟩; refine ⟨_, rfl, ?_⟩; (try replace ho0 := Kd.S_N ho0); have n0_ := Aside0.mk (Kd.N_lower (Kd.N_mono (ok' := fun k_ => k_ ≠ gb210) ho0 (fun k_ hk_ => (Kd.freshB (g := gb210) (o := .cells #[.int .i64 a2_0, .int .i64 a2_1, .int .i64 a2_2, .string a2_3] 40 (0, 0)) (by (with_reducible repeat (first | refine blk_drewN ?_ _ | refine blk_drew ?_ | refine blk_alloc ?_ _)); exact BK210.out) k_ hk_))) (below_size (by repeat (first | (with_reducible first | exact HB.out | apply below_alloc | apply pw_below_drewN | apply below_drew1 | refine below_set ?_ GE210.out) | exact HB.out)))); have n1_ := Aside0.mk (blk_below (g := gb210) (o := .cells #[.int .i64 a2_0, .int .i64 a2_1, .int .i64 a2_2, .string a2_3] 40 (0, 0)) (by (with_reducible repeat (first | refine blk_drewN ?_ _ | refine blk_drew ?_ | refine blk_alloc ?_ _)); exact BK210.out) hb); have n2_ := Aside0.mk (below_step (by repeat (first | (with_reducible first | exact HB.out | apply below_alloc | apply pw_below_drewN | apply below_drew1 | refine below_set ?_ GE210.out) | exact HB.out)) hb); clear BK210; clear HB; have HO213 := n0_; have BK210 := n1_; have HB := n2_; clear n0_ n1_ n2_; (try clear hb); (try clear hb2); (try clear hk); (try clear hi); (try clear ho0)) | ((with_reducible refine gate_dst (N := 16) rfl ?_); (try (refine gate_guard (by rfl) ?_; dsimp only)); refine Kd.N_lit k44 _ 44 ?hg (N' := 16) ?hd (xs := ([] : List (S44))) (inner := []) (ok := (fun k_ => some k_ ≠ (v212 : Value).ownBlock ∧ k_ ≠ gb210)) (okp := (fun k_ => some k_ ≠ (v212 : Value).ownBlock ∧ k_ ≠ gb210)) ?hr ?hp (fun _ hk => hk) ((show ∀ k_, w19.heap.size ≤ k_ → (fun k_ => some k_ ≠ (v212 : Value).ownBlock ∧ k_ ≠ gb210) k_ from fun k_ hk => ⟨Kd.fresh' (Kd.N_lt (by (with_reducible repeat (first | apply Kd.N_alloc | apply Kd.N_drewN | apply Kd.N_drew)); exact HO213.out)) k_ hk, Kd.freshB (g := gb210) (o := .cells #[.int .i64 a2_0, .int .i64 a2_1, .int .i64 a2_2, .string a2_3] 40 (0, 0)) (by (with_reducible repeat (first | refine blk_drewN ?_ _ | refine blk_drew ?_ | refine blk_alloc ?_ _)); exact BK210.out) k_ hk⟩) _ (Nat.le_refl _)) (Below.refl _ _) (Nat.le_refl _) (by simp) ?_; (case hd => rfl); (case hg => rfl); (case hr => first | (go_simp; done) | (go_simp; rfl)); (case hp => exact (Reps.none _ _)); intro v215 w20 ho21 hb hg_ hnew_; clear hg_ hnew_; (first | rw [← Ny214.out] at ho21 | (simp only [Int.reduceToNat] at ho21; rw [← Ny214.out] at ho21)); have n0_ := Aside0.mk (Kd.N_elder' (by (with_reducible repeat (first | apply Kd.N_alloc | apply Kd.N_drewN | apply Kd.N_drew)); exact HO213.out) (Kd.N_base ho21) hb); have n1_ := Aside0.mk (Kd.N_lower ho21 (below_size (by repeat (first | (with_reducible first | exact HB.out | apply below_alloc | apply pw_below_drewN | apply below_drew1 | refine below_set ?_ GE210.out) | exact HB.out)))); have n2_ := Aside0.mk (blk_below (g := gb210) (o := .cells #[.int .i64 a2_0, .int .i64 a2_1, .int .i64 a2_2, .string a2_3] 40 (0, 0)) (by (with_reducible repeat (first | refine blk_drewN ?_ _ | refine blk_drew ?_ | refine blk_alloc ?_ _)); exact BK210.out) hb); have n3_ := Aside0.mk (below_step (by repeat (first | (with_reducible first | exact HB.out | apply below_alloc | apply pw_below_drewN | apply below_drew1 | refine below_set ?_ GE210.out) | exact HB.out)) hb); clear HO213; clear BK210; clear HB; have HO213 := n0_; have HO216 := n1_; have BK210 := n2_; have HB := n3_; clear n0_ n1_ n2_ n3_; clear hb ho21; obtain ⟨Ao23, co23, eo23⟩ := Kd.N_slice HO213.out; subst eo23) | ((with_reducible refine gate_builtin (b := .append) (xs := #[.tmp 16, .tmp 17]) rfl ?_); (try (refine gate_guard (by rfl) ?_; dsimp only)); at_builtin; refine Kd.N_append_rows k44 (w0 := w) w.heap.size rfl (.tmp 16) (.tmp 17) 41 44 (.agg #[(.bool false), (.slice none 0 0), (.slice none 0 0)]) 56 rfl Tryd.underlying41 info44 rfl (by decide) (by omega) v215 y214 t211 _ _ _ (fun k_ => k_ ≠ gb210) (fun k_ => ((fun k_ => k_ ≠ gb210)) k_ ∧ some k_ ≠ (v215 : Value).ownBlock) rfl rfl ?aO ?aR (fun _ hk => hk) ?aF ?aB ?aS ?aL ?_; (case aR => exact (by skip; exact Kd.N_F (Kd.N_mono (ok' := (fun k_ => ((fun k_ => k_ ≠ gb210)) k_ ∧ some k_ ≠ (v215 : Value).ownBlock)) (HO213.out) (fun k_ hk => ⟨hk.1, hk.2⟩)))); (case aB => exact (by repeat (first | (with_reducible first | exact HB.out | apply below_alloc | apply pw_below_drewN | apply below_drew1 | refine below_set ?_ GE210.out) | exact HB.out))); (case aF => exact (fun k_ hk => Kd.freshB (g := gb210) (o := .cells #[.int .i64 a2_0, .int .i64 a2_1, .int .i64 a2_2, .string a2_3] 40 (0, 0)) (by (with_reducible repeat (first | refine blk_drewN ?_ _ | refine blk_drew ?_ | refine blk_alloc ?_ _)); exact BK210.out) k_ hk)); (case aO => exact (by (with_reducible repeat (first | apply Kd.N_alloc | apply Kd.N_drewN | apply Kd.N_drew)); exact Kd.N_mono HO216.out (fun _ hk => hk.2))); (case aS => exact (below_size (by repeat (first | (with_reducible first | exact HB.out | apply below_alloc | apply pw_below_drewN | apply below_drew1 | refine below_set ?_ GE210.out) | exact HB.out)))); (case aL => have := LMc5.out; omega); intro v218 w22 ho hb hg hat; rw [← Ny217.out] at ho; have n0_ := Aside0.mk (blk_grown (g := gb210) (o := .cells #[.int .i64 a2_0, .int .i64 a2_1, .int .i64 a2_2, .string a2_3] 40 (0, 0)) (by (with_reducible repeat (first | refine blk_drewN ?_ _ | refine blk_drew ?_ | refine blk_alloc ?_ _)); exact BK210.out) hg (Kd.N_ne HO216.out BK210.out (by decide))); have n1_ := Aside0.mk (Kd.N_afterv (ok := (fun k_ => k_ ≠ gb210)) (by (with_reducible repeat (first | apply Kd.N_alloc | apply Kd.N_drewN | apply Kd.N_drew)); exact HO213.out) hg hat); have n2_ := Aside0.mk (hb); have n3_ := Aside0.mk (ho); clear BK210; clear HO213; clear HB; clear HO216; have BK210 := n0_; have HO213 := n1_; have HB := n2_; have HO219 := n3_; clear n0_ n1_ n2_ n3_; clear ho hb hg hat) | ((with_reducible refine gate_callee (f := 10) rfl ?_); refine goesL_ (some 22) rfl rfl Tryd.func10 (by kernel_rfl) rfl #[.int .i64 a1, .int .i64 (t211.length : Int)] rfl (by (try simp only [List.map_toArray, List.map_cons, List.map_nil]); first | done | rfl | (simp only [List.length_drop, List.length_take]; rfl)) ?_; (with_reducible refine (chirographkeep_picked.calls a1 (t211.length : Int) t220 _ A6.out).mono ?_); rintro e w' ⟨rfl, ⟨nd, rfl⟩⟩; refine ⟨_, rfl, ?_⟩; (try (rw [drewN_self w22]; generalize hq_ : World.drewN w22 _ = w22; have n0_ : Aside0 (Kd.N k44 44 w22 w.heap.size (fun k_ => some k_ ≠ (v218 : Value).ownBlock ∧ k_ ≠ gb210) (.slice Ao23 t211.length co23) t211) := ⟨by rw [← hq_]; exact (by (with_reducible repeat (first | apply Kd.N_alloc | apply Kd.N_drewN | apply Kd.N_drew)); exact Kd.N_mono HO213.out (fun _ hk => ⟨hk.2, hk.1⟩))⟩; have n1_ : Aside0 (Kd.N k44 44 w22 w.heap.size (fun k_ => k_ ≠ gb210) v218 y217) := ⟨by rw [← hq_]; exact (by (with_reducible repeat (first | apply Kd.N_alloc | apply Kd.N_drewN | apply Kd.N_drew)); exact HO219.out)⟩; have n2_ : Aside0 (w22.heap[gb210]? = some (.cells #[.int .i64 a2_0, .int .i64 a2_1, .int .i64 a2_2, .string a2_3] 40 (0, 0))) := ⟨by rw [← hq_]; exact (by (with_reducible repeat (first | refine blk_drewN ?_ _ | refine blk_drew ?_ | refine blk_alloc ?_ _)); exact BK210.out)⟩; have n3_ : Aside0 (Below w.heap.size w w22) := ⟨by rw [← hq_]; exact (by repeat (first | (with_reducible first | exact HB.out | apply below_alloc | apply pw_below_drewN | apply below_drew1 | refine below_set ?_ GE210.out) | exact HB.out))⟩; clear HO213 HO219 BK210 HB hq_; have HO213 := n0_; have HO219 := n1_; have BK210 := n2_; have HB := n3_; clear n0_ n1_ n2_ n3_)); have hcz24_0 : w22.cell? ⟨gb210, 0, none⟩ = some (.int .i64 a2_0) := (blk_cell BK210.out 0).trans rfl; have hcz24_1 : w22.cell? ⟨gb210, 1, none⟩ = some (.int .i64 a2_1) := (blk_cell BK210.out 1).trans rfl; have hcz24_2 : w22.cell? ⟨gb210, 2, none⟩ = some (.int .i64 a2_2) := (blk_cell BK210.out 2).trans rfl; have hcz24_3 : w22.cell? ⟨gb210, 3, none⟩ = some (.string a2_3) := (blk_cell BK210.out 3).trans rfl; have hfz24_0 := blk_frozen BK210.out 0; have hfz24_1 := blk_frozen BK210.out 1; have hfz24_2 := blk_frozen BK210.out 2; have hfz24_3 := blk_frozen BK210.out 3) | ((with_reducible refine gate_callee (f := 17) rfl ?_); refine goesL_ (some 26) rfl rfl Tryd.func17 (by kernel_rfl) rfl #[.agg #[.int .i64 a2_0, .int .i64 a2_1, .int .i64 a2_2, .string a2_3]] rfl (by (try simp only [List.map_toArray, List.map_cons, List.map_nil]); first | done | rfl | (simp only [List.length_drop, List.length_take]; rfl)) ?_; (with_reducible refine (chirographkeep_slotOf.calls a2_0 a2_1 a2_2 a2_3 t221 t222 t225 _ A7.out).mono ?_); rintro e w25 ⟨v223, v226, rfl, ho0, ho1, hb⟩; refine ⟨_, rfl, ?_⟩; (try replace ho0 := Kd.S_N ho0); (try replace ho1 := Kd.S_N ho1); have n0_ := Aside0.mk (Kd.N_elder' (by (with_reducible repeat (first | apply Kd.N_alloc | apply Kd.N_drewN | apply Kd.N_drew)); exact HO213.out) (Kd.R_base ho0) hb); have n1_ := Aside0.mk (Kd.N_elder' (by (with_reducible repeat (first | apply Kd.N_alloc | apply Kd.N_drewN | apply Kd.N_drew)); exact HO219.out) (Kd.R_base ho0) hb); have n2_ := Aside0.mk (Kd.R_lower (Kd.R_mono (ok' := fun k_ => True) ho0 (fun _ hk_ => trivial)) (below_size (by repeat (first | (with_reducible first | exact HB.out | apply below_alloc | apply pw_below_drewN | apply below_drew1 | refine below_set ?_ GE210.out) | exact HB.out)))); have n3_ := Aside0.mk (Kd.V_lower (Kd.V_mono (ok' := fun k_ => some k_ ≠ (v223 : Value).ownBlock ∧ some k_ ≠ (.slice Ao23 t211.length co23 : Value).ownBlock ∧ some k_ ≠ (v218 : Value).ownBlock ∧ k_ ≠ gb210) ho1 (fun k_ hk_ => ⟨hk_.2, (Kd.fresh' (Kd.N_lt (by (with_reducible repeat (first | apply Kd.N_alloc | apply Kd.N_drewN | apply Kd.N_drew)); exact HO213.out)) k_ hk_.1), (Kd.fresh' (Kd.N_lt (by (with_reducible repeat (first | apply Kd.N_alloc | apply Kd.N_drewN | apply Kd.N_drew)); exact HO219.out)) k_ hk_.1), (Kd.freshB (g := gb210) (o := .cells #[.int .i64 a2_0, .int .i64 a2_1, .int .i64 a2_2, .string a2_3] 40 (0, 0)) (by (with_reducible repeat (first | refine blk_drewN ?_ _ | refine blk_drew ?_ | refine blk_alloc ?_ _)); exact BK210.out) k_ hk_.1)⟩)) (below_size (by repeat (first | (with_reducible first | exact HB.out | apply below_alloc | apply pw_below_drewN | apply below_drew1 | refine below_set ?_ GE210.out) | exact HB.out)))); have n4_ := Aside0.mk (blk_below (g := gb210) (o := .cells #[.int .i64 a2_0, .int .i64 a2_1, .int .i64 a2_2, .string a2_3] 40 (0, 0)) (by (with_reducible repeat (first | refine blk_drewN ?_ _ | refine blk_drew ?_ | refine blk_alloc ?_ _)); exact BK210.out) hb); have n5_ := Aside0.mk (below_step (by repeat (first | (with_reducible first | exact HB.out | apply below_alloc | apply pw_below_drewN | apply below_drew1 | refine below_set ?_ GE210.out) | exact HB.out)) hb); clear HO213; clear HO219; clear BK210; clear HB; have HO213 := n0_; have HO219 := n1_; have HO224 := n2_; have HO227 := n3_; have BK210 := n4_; have HB := n5_; clear n0_ n1_ n2_ n3_ n4_ n5_; (try clear hb); (try clear hb2); (try clear hk); (try clear hi); (try clear ho0); (try clear ho1); have p10 : 0 ≤ (t220 : Int) := of_decide_eq_true (by first | (with_reducible assumption) | assumption); have q10 : (t220 : Int) < ((y217.length : Int) : Int) := of_decide_eq_true (by first | (with_reducible assumption) | assumption); obtain ⟨go10, co10, eo10, gb10, gl10, cl10, HG10⟩ := Kd.N_form HO219.out (by omega); (first | cases eo10 | (injection eo10 with ea_ en_ ec_; (first | subst ea_ | (injection ea_ with ea_; subst ea_)); subst ec_; clear en_)); have GB10 := Aside0.mk gb10; have GG10 := Aside0.mk HG10; clear gb10 gl10 HG10; obtain ⟨ce10, hcl10, hM10, hcc10, hfr10⟩ := Kd.N_elem HO219.out z44 (t220 : Int) p10 q10; obtain ⟨ua10_1, uc10_1, ua10_2, uc10_2, rfl, ul10_1, ge10_1, ul10_2, ge10_2⟩ := k44_openF hM10; have hx10_0 : w25.cell? ⟨go10, (t220 : Int).toNat * 3, none⟩ = some (.bool ((rd_T44 y217 t220).f0)) := hcc10 0 _ rfl; have hx10_1 : w25.cell? ⟨go10, (t220 : Int).toNat * 3 + 1, none⟩ = some (.slice ua10_1 ((rd_T44 y217 t220).f1).length uc10_1) := hcc10 1 _ rfl; have hx10_2 : w25.cell? ⟨go10, (t220 : Int).toNat * 3 + 2, none⟩ = some (.slice ua10_2 ((rd_T44 y217 t220).f2).length uc10_2) := hcc10 2 _ rfl; have hf10_0 : w25.frozen? ⟨go10, (t220 : Int).toNat * 3, none⟩ = false := hfr10 0; have hf10_1 : w25.frozen? ⟨go10, (t220 : Int).toNat * 3 + 1, none⟩ = false := hfr10 1; have hf10_2 : w25.frozen? ⟨go10, (t220 : Int).toNat * 3 + 2, none⟩ = false := hfr10 2; clear hcl10 hcc10 hfr10 hM10; replace p10 := eq_true p10; replace q10 := eq_true q10; obtain ⟨Ao28, co28, eo28⟩ := Kd.R_slice HO224.out; subst eo28; obtain ⟨Ao29, co29, eo29⟩ := Kd.V_slice HO227.out; subst eo29; have HX26 := Aside0.mk (show Kd.N k44 44 w25 w.heap.size (fun k_ => k_ ≠ gb210) (.slice (some ⟨go10, 0, none⟩) y217.length co10) y217 from (by (with_reducible repeat (first | apply Kd.N_alloc | apply Kd.N_drewN | apply Kd.N_drew)); exact Kd.N_mono HO219.out (fun _ hk => hk.1))); obtain ⟨ce26, hcl26, hM26, hcc26, hfr26⟩ := Kd.N_elem HX26.out z44 (t220 : Int) (of_decide_eq_true (by first | (with_reducible assumption) | assumption)) (by have h_ : (t220 : Int) < ((y217.length : Int) : Int) := of_decide_eq_true (by first | (with_reducible assumption) | assumption); first | exact h_ | (have e_ := (Kd.N_reads' HO219.out).1; omega) | simpa using h_); obtain ⟨ua26_1, uc26_1, ua26_2, uc26_2, rfl, ul26_1, ge26_1, ul26_2, ge26_2⟩ := k44_openF hM26; have HP26 := Kd.N_seg HX26.out (t220 : Int) (of_decide_eq_true (by first | (with_reducible assumption) | assumption)) (by have h_ : (t220 : Int) < ((y217.length : Int) : Int) := of_decide_eq_true (by first | (with_reducible assumption) | assumption); first | exact h_ | (have e_ := (Kd.N_reads' HO219.out).1; omega) | simpa using h_) (seg := [.bool t221, .slice Ao28 t222.length co28, .slice Ao29 t225.length co29]) (j := 0) hcl26 hcc26 (show 3 ≤ 3 from by decide) (x' := (⟨t221, t222, t225⟩ : S44)) (k44_mkF _ _ (⟨t221, t222, t225⟩ : S44) (Kd.R_reads' (Kd.R_mono (ok' := (fun k_ => ((fun k_ => k_ ≠ gb210)) k_ ∧ k_ ≠ go10)) (Kd.R_types (Kd.R_apart' (HO224.out) (Kd.N_typed HO219.out) (by decide)) BK210.out (by decide)) (fun k_ hk => ⟨hk.2, fun e_ => (hk.1.2) (by rw [e_]; rfl)⟩))).2.1 (Kd.R_F (Kd.R_mono (ok' := (fun k_ => ((fun k_ => k_ ≠ gb210)) k_ ∧ k_ ≠ go10)) (Kd.R_types (Kd.R_apart' (HO224.out) (Kd.N_typed HO219.out) (by decide)) BK210.out (by decide)) (fun k_ hk => ⟨hk.2, fun e_ => (hk.1.2) (by rw [e_]; rfl)⟩))) (Kd.V_reads' (Kd.V_mono (ok' := (fun k_ => ((fun k_ => k_ ≠ gb210)) k_ ∧ k_ ≠ go10)) (HO227.out) (fun k_ hk => ⟨hk.2.2.2, fun e_ => (hk.2.2.1) (by rw [e_]; rfl)⟩))).2.1 (Kd.V_F (Kd.V_mono (ok' := (fun k_ => ((fun k_ => k_ ≠ gb210)) k_ ∧ k_ ≠ go10)) (HO227.out) (fun k_ hk => ⟨hk.2.2.2, fun e_ => (hk.2.2.1) (by rw [e_]; rfl)⟩)))) (fun _ hk => hk); have hx26_0 := hcc26 0 _ rfl; (try simp only [show (k44).sz = 3 from rfl, Nat.mul_one, Nat.add_zero] at hx26_0); have hf26_0 := hfr26 0; (try simp only [show (k44).sz = 3 from rfl, Nat.mul_one, Nat.add_zero] at hf26_0); have hx26_1 := hcc26 1 _ rfl; (try simp only [show (k44).sz = 3 from rfl, Nat.mul_one, Nat.add_zero] at hx26_1); have hf26_1 := hfr26 1; (try simp only [show (k44).sz = 3 from rfl, Nat.mul_one, Nat.add_zero] at hf26_1); have hx26_2 := hcc26 2 _ rfl; (try simp only [show (k44).sz = 3 from rfl, Nat.mul_one, Nat.add_zero] at hx26_2); have hf26_2 := hfr26 2; (try simp only [show (k44).sz = 3 from rfl, Nat.mul_one, Nat.add_zero] at hf26_2); clear hcl26 hcc26 hfr26 hM26) | ((with_reducible refine gate_store (t := 44) (p := 27) rfl ?_); refine store_event (t := 44) (p := 27) (v := ?vo_w27) (w1 := (((w25.setCell ⟨go10, (t220 : Int).toNat * 3, none⟩ (.bool t221)).setCell ⟨go10, (t220 : Int).toNat * 3 + 1, none⟩ (.slice Ao28 t222.length co28)).setCell ⟨go10, (t220 : Int).toNat * 3 + 2, none⟩ (.slice Ao29 t225.length co29))) ?hg ?ho ?hn ?hr ?_; (case ho => rfl); (case hg => rfl); (case hn => rfl); (case hr => first | (go_simp; done) | (go_simp; rfl)); intro w27 hw; have hg : w25.grownBy w27 (some go10) := (by rw [hw]; exact HP26.2); have hp_ : Kd.N k44 44 w27 w.heap.size (fun k_ => k_ ≠ gb210) (.slice (some ⟨go10, 0, none⟩) y217.length co10) y228 := (by rw [hw, Ny228.out]; exact HP26.1); clear HP26; have n0_ := Aside0.mk (blk_grown (g := gb210) (o := .cells #[.int .i64 a2_0, .int .i64 a2_1, .int .i64 a2_2, .string a2_3] 40 (0, 0)) (by (with_reducible repeat (first | refine blk_drewN ?_ _ | refine blk_drew ?_ | refine blk_alloc ?_ _)); exact BK210.out) hg (Kd.N_ne HO219.out BK210.out (by decide))); have n1_ := Aside0.mk (Kd.N_afterv (v := (.slice (some ⟨go10, 0, none⟩) y217.length co10)) (v1 := (.slice (some ⟨go10, 0, none⟩) y217.length co10)) (ok := (fun k_ => some k_ ≠ (.slice Ao28 t222.length co28 : Value).ownBlock ∧ k_ ≠ gb210)) (by (with_reducible repeat (first | apply Kd.N_alloc | apply Kd.N_drewN | apply Kd.N_drew)); exact Kd.N_mono HO213.out (fun _ hk => ⟨⟨hk.2, hk.1.2⟩, hk.1.1⟩)) hg (.inl rfl)); have n2_ := Aside0.mk (hp_); have n3_ := Aside0.mk (Kd.V_afterv (v := (.slice (some ⟨go10, 0, none⟩) y217.length co10)) (v1 := (.slice (some ⟨go10, 0, none⟩) y217.length co10)) (ok := (fun k_ => some k_ ≠ (.slice Ao23 t211.length co23 : Value).ownBlock ∧ some k_ ≠ (.slice Ao28 t222.length co28 : Value).ownBlock ∧ k_ ≠ gb210)) (by (with_reducible repeat (first | apply Kd.V_alloc | apply Kd.V_drewN | apply Kd.V_drew)); exact Kd.V_mono HO227.out (fun _ hk => ⟨⟨hk.2.1, ⟨hk.1, hk.2.2.2⟩⟩, hk.2.2.1⟩)) hg (.inl rfl)); have n4_ := Aside0.mk ((by rw [hw]; exact below_set (below_set (below_set (HB.out) GB10.out) GB10.out) GB10.out : Below w.heap.size w w27)); clear BK210; clear HO213; clear HO219; clear HO227; clear HB; clear HO224; have BK210 := n0_; have HO213 := n1_; have HO219 := n2_; have HO227 := n3_; have HB := n4_; clear n0_ n1_ n2_ n3_ n4_; clear hg hw hp_) | ((with_reducible refine gate_callee (f := 18) rfl ?_); refine goesL_ (some 30) rfl rfl Tryd.func18 (by kernel_rfl) rfl #[.int .i64 2, .slice Ao23 t211.length co23] rfl (by (try simp only [List.map_toArray, List.map_cons, List.map_nil]); first | done | rfl | (simp only [List.length_drop, List.length_take]; rfl)) ?_; (with_reducible refine (slots_Root.calls k 2 _ _ t211 t229 t230 _ ?side1 ?side2 A11.out).mono ?_); (case side1 => repeat (first | exact (Kd.N_reads' HO213.out).2.2 | (with_reducible refine Kd.C_alloc ?_ _) | (with_reducible refine Kd.C_drewN ?_ _) | (with_reducible refine Kd.C_drew ?_))); (case side2 => exact (Kd.N_reads' HO213.out).2.1); rintro e w30 ⟨v231, rfl, ho0, hb⟩; refine ⟨_, rfl, ?_⟩; (try replace ho0 := Kd.S_N ho0); have n0_ := Aside0.mk (Kd.N_elder' (by (with_reducible repeat (first | apply Kd.N_alloc | apply Kd.N_drewN | apply Kd.N_drew)); exact HO213.out) (Kd.R_base ho0) hb); have n1_ := Aside0.mk (Kd.N_elder' (by (with_reducible repeat (first | apply Kd.N_alloc | apply Kd.N_drewN | apply Kd.N_drew)); exact HO219.out) (Kd.R_base ho0) hb); have n2_ := Aside0.mk (Kd.V_elder' (by (with_reducible repeat (first | apply Kd.V_alloc | apply Kd.V_drewN | apply Kd.V_drew)); exact HO227.out) (Kd.R_base ho0) hb); have n3_ := Aside0.mk (Kd.R_lower ho0 (below_size (by repeat (first | (with_reducible first | exact HB.out | apply below_alloc | apply pw_below_drewN | apply below_drew1 | refine below_set ?_ GE210.out) | exact HB.out)))); have n4_ := Aside0.mk (blk_below (g := gb210) (o := .cells #[.int .i64 a2_0, .int .i64 a2_1, .int .i64 a2_2, .string a2_3] 40 (0, 0)) (by (with_reducible repeat (first | refine blk_drewN ?_ _ | refine blk_drew ?_ | refine blk_alloc ?_ _)); exact BK210.out) hb); have n5_ := Aside0.mk (below_step (by repeat (first | (with_reducible first | exact HB.out | apply below_alloc | apply pw_below_drewN | apply below_drew1 | refine below_set ?_ GE210.out) | exact HB.out)) hb); clear HO213; clear HO219; clear HO227; clear BK210; clear HB; have HO213 := n0_; have HO219 := n1_; have HO227 := n2_; have HO232 := n3_; have BK210 := n4_; have HB := n5_; clear n0_ n1_ n2_ n3_ n4_ n5_; (try clear hb); (try clear hb2); (try clear hk); (try clear hi); (try clear ho0)) | ((with_reducible refine gate_callee (f := 18) rfl ?_); refine goesL_ (some 35) rfl rfl Tryd.func18 (by kernel_rfl) rfl #[.int .i64 2, .slice (some ⟨go10, 0, none⟩) y228.length co10] rfl (by (try simp only [List.map_toArray, List.map_cons, List.map_nil]); first | done | (rw [show y228.length = y217.length from (Kd.N_reads' HO219.out).1.symm] <;> rfl) | rfl | (simp only [List.length_drop, List.length_take]; rfl)) ?_; (with_reducible refine (slots_Root.calls k 2 _ _ y228 t233 t234 _ ?side1 ?side2 A12.out).mono ?_); (case side1 => repeat (first | exact (Kd.N_reads' HO219.out).2.2 | (with_reducible refine Kd.C_alloc ?_ _) | (with_reducible refine Kd.C_drewN ?_ _) | (with_reducible refine Kd.C_drew ?_))); (case side2 => rw [show y228.length = y217.length from (Kd.N_reads' HO219.out).1.symm]; exact (Kd.N_reads' HO219.out).2.1); rintro e w31 ⟨v235, rfl, ho0, hb⟩; refine ⟨_, rfl, ?_⟩; (try replace ho0 := Kd.S_N ho0); have n0_ := Aside0.mk (Kd.N_elder' (by (with_reducible repeat (first | apply Kd.N_alloc | apply Kd.N_drewN | apply Kd.N_drew)); exact HO213.out) (Kd.R_base ho0) hb); have n1_ := Aside0.mk (Kd.N_elder' (by (with_reducible repeat (first | apply Kd.N_alloc | apply Kd.N_drewN | apply Kd.N_drew)); exact HO219.out) (Kd.R_base ho0) hb); have n2_ := Aside0.mk (Kd.V_elder' (by (with_reducible repeat (first | apply Kd.V_alloc | apply Kd.V_drewN | apply Kd.V_drew)); exact HO227.out) (Kd.R_base ho0) hb); have n3_ := Aside0.mk (Kd.R_elder' (by (with_reducible repeat (first | apply Kd.R_alloc | apply Kd.R_drewN | apply Kd.R_drew)); exact HO232.out) (Kd.R_base ho0) hb); have n4_ := Aside0.mk (Kd.R_lower (Kd.R_new' ho0 (Kd.R_lt (by (with_reducible repeat (first | apply Kd.R_alloc | apply Kd.R_drewN | apply Kd.R_drew)); exact HO232.out))) (below_size (by repeat (first | (with_reducible first | exact HB.out | apply below_alloc | apply pw_below_drewN | apply below_drew1 | refine below_set ?_ GE210.out) | exact HB.out)))); have n5_ := Aside0.mk (blk_below (g := gb210) (o := .cells #[.int .i64 a2_0, .int .i64 a2_1, .int .i64 a2_2, .string a2_3] 40 (0, 0)) (by (with_reducible repeat (first | refine blk_drewN ?_ _ | refine blk_drew ?_ | refine blk_alloc ?_ _)); exact BK210.out) hb); have n6_ := Aside0.mk (below_step (by repeat (first | (with_reducible first | exact HB.out | apply below_alloc | apply pw_below_drewN | apply below_drew1 | refine below_set ?_ GE210.out) | exact HB.out)) hb); clear HO213; clear HO219; clear HO227; clear HO232; clear BK210; clear HB; have HO213 := n0_; have HO219 := n1_; have HO227 := n2_; have HO232 := n3_; have HO236 := n4_; have BK210 := n5_; have HB := n6_; clear n0_ n1_ n2_ n3_ n4_ n5_ n6_; (try clear hb); (try clear hb2); (try clear hk); (try clear hi); (try clear ho0)))
                have n0_ := Aside0.mk (Kd.N_drew HO213.out)
                have n1_ := Aside0.mk (Kd.N_drew HO219.out)
                have n2_ := Aside0.mk (Kd.V_drew HO227.out)
                have n3_ := Aside0.mk (Kd.R_drew HO232.out)
                have n4_ := Aside0.mk (Kd.R_drew HO236.out)
                have n5_ := Aside0.mk (blk_drew BK210.out)
                have n6_ := Aside0.mk (below_drew1 HB.out)
                clear HO213
                clear HO219
                clear HO227
                clear HO232
                clear HO236
                clear BK210
                clear HB
                have HO213 := n0_
                have HO219 := n1_
                have HO227 := n2_
                have HO232 := n3_
                have HO236 := n4_
                have BK210 := n5_
                have HB := n6_
                clear n0_ n1_ n2_ n3_ n4_ n5_ n6_
                obtain ⟨Ao33, co33, eo33⟩ := Kd.R_slice HO232.out
                (first | subst eo33 | (injection eo33 with f1_ f2_ f3_; have f4_ := f1_.symm; have f5_ := f3_.symm; clear f1_ f2_ f3_; subst f4_; subst f5_))
                have p237 : 0 ≤ (t220 : Int) := of_decide_eq_true (by first | (with_reducible assumption) | assumption)
                have q237 : t220 < (t211.length : Int) := of_decide_eq_true (by first | (with_reducible assumption) | assumption)
                obtain ⟨ad237, A237_1, c237_1, A237_2, c237_2, e237, hx237_0, hx237_1, hx237_2, hl237_1, hi237_1, hl237_2, hi237_2⟩ := at_T44 (Kd.N_reads' HO213.out).2.2 t220 p237 q237
                cases e237
                obtain ⟨ce237, hce237, hMe237, hcc237⟩ := Kd.N_get HO213.out z44 t220 p237 (by first | exact q237 | exact of_decide_eq_true (by first | (with_reducible assumption) | assumption) | (have e_ := (Kd.N_reads' HO213.out).1; omega))
                obtain ⟨ua237_1, uc237_1, ua237_2, uc237_2, rfl, ul237_1, ge237_1, ul237_2, ge237_2⟩ := k44_openF hMe237
                have hv237_1 := hcc237 1 _ rfl
                rw [add_field _ _ 1 (by omega)] at hv237_1
                replace hv237_1 := Option.some.inj (hv237_1.symm.trans hx237_1)
                injection hv237_1 with hva_ hvn_ hvc_
                rw [hva_] at ge237_1
                rw [hvc_] at ul237_1
                have HL237_1 := Aside0.mk (show Kd.V (Kd.int .u8) 5 _ w.heap.size _ _ ((rd_T44 t211 t220).f1) from Kd.V_mk ul237_1 ge237_1)
                clear hva_ hvn_ hvc_ ge237_1 ul237_1
                have hv237_2 := hcc237 2 _ rfl
                rw [add_field _ _ 2 (by omega)] at hv237_2
                replace hv237_2 := Option.some.inj (hv237_2.symm.trans hx237_2)
                injection hv237_2 with hva_ hvn_ hvc_
                rw [hva_] at ge237_2
                rw [hvc_] at ul237_2
                have HL237_2 := Aside0.mk (show Kd.V (Kd.int .u8) 5 _ w.heap.size _ _ ((rd_T44 t211 t220).f2) from Kd.V_mk ul237_2 ge237_2)
                clear hva_ hvn_ hvc_ ge237_2 ul237_2
                clear hcc237 hce237
                have HR237_1 := Aside0.mk hi237_1
                have HC237_1 := Aside0.mk hl237_1
                clear hi237_1 hl237_1
                have HR237_2 := Aside0.mk hi237_2
                have HC237_2 := Aside0.mk hl237_2
                clear hi237_2 hl237_2
                replace p237 := eq_true p237
                replace q237 := eq_true q237
                have p238 : 0 ≤ (t220 : Int) := of_decide_eq_true (by first | (with_reducible assumption) | assumption)
                have q238 : t220 < (y228.length : Int) := (by have h_ : (t220 : Int) < ((y217.length : Int) : Int) := of_decide_eq_true (by first | (with_reducible assumption) | assumption); first | (have e_ := (Kd.N_reads' HO219.out).1; omega) | simpa only [Ny228.out, List.length_set] using h_)
                have ql238 : ((t220 : Int) < ((y217.length : Int) : Int)) = True := eq_true (of_decide_eq_true (by first | (with_reducible assumption) | assumption))
                obtain ⟨ad238, A238_1, c238_1, A238_2, c238_2, e238, hx238_0, hx238_1, hx238_2, hl238_1, hi238_1, hl238_2, hi238_2⟩ := at_T44 (Kd.N_reads' HO219.out).2.2 t220 p238 q238
                obtain rfl : (⟨go10, 0, none⟩ : Addr) = ad238 := (by injection e238)
                obtain ⟨ce238, hce238, hMe238, hcc238⟩ := Kd.N_get HO219.out z44 t220 p238 (by first | exact q238 | exact of_decide_eq_true (by first | (with_reducible assumption) | assumption) | (have e_ := (Kd.N_reads' HO219.out).1; omega))
                obtain ⟨ua238_1, uc238_1, ua238_2, uc238_2, rfl, ul238_1, ge238_1, ul238_2, ge238_2⟩ := k44_openF hMe238
                have hv238_1 := hcc238 1 _ rfl
                rw [add_field _ _ 1 (by omega)] at hv238_1
                replace hv238_1 := Option.some.inj (hv238_1.symm.trans hx238_1)
                injection hv238_1 with hva_ hvn_ hvc_
                rw [hva_] at ge238_1
                rw [hvc_] at ul238_1
                have HL238_1 := Aside0.mk (show Kd.V (Kd.int .u8) 5 _ w.heap.size _ _ ((rd_T44 y228 t220).f1) from Kd.V_mk ul238_1 ge238_1)
                clear hva_ hvn_ hvc_ ge238_1 ul238_1
                have hv238_2 := hcc238 2 _ rfl
                rw [add_field _ _ 2 (by omega)] at hv238_2
                replace hv238_2 := Option.some.inj (hv238_2.symm.trans hx238_2)
                injection hv238_2 with hva_ hvn_ hvc_
                rw [hva_] at ge238_2
                rw [hvc_] at ul238_2
                have HL238_2 := Aside0.mk (show Kd.V (Kd.int .u8) 5 _ w.heap.size _ _ ((rd_T44 y228 t220).f2) from Kd.V_mk ul238_2 ge238_2)
                clear hva_ hvn_ hvc_ ge238_2 ul238_2
                clear hcc238 hce238
                (first | simp only [add_plain] at hx238_0 | simp only [add_at] at hx238_0 | simp only [Addr.add, Nat.zero_add] at hx238_0 | skip)
                (first | simp only [add_plain] at hx238_1 | simp only [add_at] at hx238_1 | simp only [Addr.add, Nat.zero_add] at hx238_1 | skip)
                (first | simp only [add_plain] at hx238_2 | simp only [add_at] at hx238_2 | simp only [Addr.add, Nat.zero_add] at hx238_2 | skip)
                have HR238_1 := Aside0.mk hi238_1
                have HC238_1 := Aside0.mk hl238_1
                clear hi238_1 hl238_1
                have HR238_2 := Aside0.mk hi238_2
                have HC238_2 := Aside0.mk hl238_2
                clear hi238_2 hl238_2
                replace p238 := eq_true p238
                replace q238 := eq_true q238
                refine start_ (n := 29) (S := fun w' => (convert 34 9 (.slice Ao33 t229.length co33 : Value)).run Tryd.prog w' = .ok (.string (strOfNums t229)) w' ∧ (convert 34 9 (v235 : Value)).run Tryd.prog w' = .ok (.string (strOfNums t233)) w' ∧ w'.cell? (ad237.add ((t220).toNat * 3)) = some (.bool ((rd_T44 t211 t220).f0)) ∧ w'.cell? ⟨(ad237.add ((t220).toNat * 3)).block, (ad237.add ((t220).toNat * 3)).off + 1, none⟩ = some (.slice A237_1 ((rd_T44 t211 t220).f1).length c237_1) ∧ w'.cell? ⟨(ad237.add ((t220).toNat * 3)).block, (ad237.add ((t220).toNat * 3)).off + 2, none⟩ = some (.slice A237_2 ((rd_T44 t211 t220).f2).length c237_2) ∧ w'.cell? ⟨go10, (t220).toNat * 3, none⟩ = some (.bool ((rd_T44 y228 t220).f0)) ∧ w'.cell? ⟨go10, (t220).toNat * 3 + 1, none⟩ = some (.slice A238_1 ((rd_T44 y228 t220).f1).length c238_1) ∧ w'.cell? ⟨go10, (t220).toNat * 3 + 2, none⟩ = some (.slice A238_2 ((rd_T44 y228 t220).f2).length c238_2)) (ds := []) #[false, false, false, false, false, false, false, false, false, false, false, false, false, false, false, false, false, false, false, false, false, false, false, false, false, false, false, false, false] (by kernel_rfl) rfl rfl ⟨(own_string (P := Tryd.prog) Tryd.underlying34 Tryd.underlying5 Tryd.underlying9 (Kd.own_of_R HO232.out)), (own_string (P := Tryd.prog) Tryd.underlying34 Tryd.underlying5 Tryd.underlying9 (Kd.own_of_R HO236.out)), hx237_0, hx237_1, hx237_2, hx238_0, hx238_1, hx238_2⟩ (fun hHeld => ?_); refine with_tabW chirographkeep_SlotsApart.tab7 chirographkeep_SlotsApart.bits7 (fun HT_ HW_ => ?_)
                generalize w31.drew = w32 at HO213 HO219 HO227 HO232 HO236 BK210 HB HL237_1 HL237_2 HL238_1 HL238_2 HR237_1 HR237_2 HR238_1 HR238_2 hx237_0 hx237_1 hx237_2 hx238_0 hx238_1 hx238_2 hHeld ⊢
                refine pure_ (i := 0) (N := some 38) (v := ?_) (a' := ?_) #[true, false, false, false, false, false, false, false, false, false, false, false, false, false, false, false, false, false, false, false, false, false, false, false, false, false, false, false, false] rfl rfl (any_of HT_.out (by kernel_rfl)) (fun _ _ _ h => h) (Or.inl ⟨by rfl, ?_⟩) ?_ ?_
                rotate_left
                · intro w'
                  go_simp
                  with_reducible rfl
                rotate_left
                · simp only [Act.put, List.setIfInBounds_toArray, List.set_cons_zero, List.set_cons_succ, i64_w, i32_w]
                  rfl
                refine pure_ (i := 1) (N := some 39) (v := ?_) (a' := ?_) #[true, true, false, false, false, false, false, false, false, false, false, false, false, false, false, false, false, false, false, false, false, false, false, false, false, false, false, false, false] rfl rfl (any_of HT_.out (by kernel_rfl)) (fun _ _ _ h => h) (Or.inl ⟨by rfl, ?_⟩) ?_ ?_
                rotate_left
                · intro w'
                  go_simp
                  with_reducible rfl
                rotate_left
                · simp only [Act.put, List.setIfInBounds_toArray, List.set_cons_zero, List.set_cons_succ, i64_w, i32_w]
                  rfl
                refine pure_ (i := 2) (N := some 40) (v := ?_) (a' := ?_) #[true, true, true, false, false, false, false, false, false, false, false, false, false, false, false, false, false, false, false, false, false, false, false, false, false, false, false, false, false] rfl rfl (any_of HT_.out (by kernel_rfl)) (fun _ _ _ h => h) (Or.inl ⟨by rfl, ?_⟩) ?_ ?_
                rotate_left
                · intro w'
                  go_simp
                  with_reducible rfl
                rotate_left
                · simp only [Act.put, List.setIfInBounds_toArray, List.set_cons_zero, List.set_cons_succ, i64_w, i32_w]
                  rfl
                refine pure_ (i := 3) (N := some 41) (v := ?_) (a' := ?_) #[true, true, true, true, false, false, false, false, false, false, false, false, false, false, false, false, false, false, false, false, false, false, false, false, false, false, false, false, false] rfl rfl (any_of HT_.out (by kernel_rfl)) (fun _ _ _ h => h) (Or.inl ⟨by rfl, ?_⟩) ?_ ?_
                rotate_left
                · intro w'
                  go_simp
                  with_reducible rfl
                rotate_left
                · simp only [Act.put, List.setIfInBounds_toArray, List.set_cons_zero, List.set_cons_succ, i64_w, i32_w]
                  rfl
                refine pure_ (i := 4) (N := some 42) (v := ?_) (a' := ?_) #[true, true, true, true, true, false, false, false, false, false, false, false, false, false, false, false, false, false, false, false, false, false, false, false, false, false, false, false, false] rfl rfl (any_of HT_.out (by kernel_rfl)) (fun _ _ _ h => h) (Or.inl ⟨by rfl, ?_⟩) ?_ ?_
                rotate_left
                · intro w'
                  go_simp
                  with_reducible rfl
                rotate_left
                · simp only [Act.put, List.setIfInBounds_toArray, List.set_cons_zero, List.set_cons_succ, i64_w, i32_w]
                  rfl
                refine pure_ (i := 5) (N := some 43) (v := ?_) (a' := ?_) #[true, true, true, true, true, true, false, false, false, false, false, false, false, false, false, false, false, false, false, false, false, false, false, false, false, false, false, false, false] rfl rfl (any_of HT_.out (by kernel_rfl)) (fun _ _ _ h => h) (Or.inl ⟨by rfl, ?_⟩) ?_ ?_
                rotate_left
                · intro w'
                  go_simp
                  with_reducible rfl
                rotate_left
                · simp only [Act.put, List.setIfInBounds_toArray, List.set_cons_zero, List.set_cons_succ, i64_w, i32_w]
                  rfl
                refine pure_ (i := 6) (N := some 44) (v := ?_) (a' := ?_) #[true, true, true, true, true, true, true, false, false, false, false, false, false, false, false, false, false, false, false, false, false, false, false, false, false, false, false, false, false] rfl rfl (any_of HT_.out (by kernel_rfl)) (fun _ _ _ h => h) (Or.inl ⟨by rfl, ?_⟩) ?_ ?_
                rotate_left
                · intro w'
                  go_simp
                  with_reducible rfl
                rotate_left
                · simp only [Act.put, List.setIfInBounds_toArray, List.set_cons_zero, List.set_cons_succ, i64_w, i32_w]
                  rfl
                refine pure_ (i := 7) (N := some 45) (v := ?_) (a' := ?_) #[true, true, true, true, true, true, true, true, false, false, false, false, false, false, false, false, false, false, false, false, false, false, false, false, false, false, false, false, false] rfl rfl (any_of HT_.out (by kernel_rfl)) (fun _ _ _ h => h) (Or.inl ⟨by rfl, ?_⟩) ?_ ?_
                rotate_left
                · intro w'
                  go_simp
                  with_reducible rfl
                rotate_left
                · simp only [Act.put, List.setIfInBounds_toArray, List.set_cons_zero, List.set_cons_succ, i64_w, i32_w]
                  rfl
                refine pure_ (i := 8) (N := some 46) (v := ?_) (a' := ?_) #[true, true, true, true, true, true, true, true, true, false, false, false, false, false, false, false, false, false, false, false, false, false, false, false, false, false, false, false, false] rfl rfl (any_of HT_.out (by kernel_rfl)) (fun _ _ _ h => h) (Or.inl ⟨by rfl, ?_⟩) ?_ ?_
                rotate_left
                · intro w'
                  go_simp
                  with_reducible rfl
                rotate_left
                · simp only [Act.put, List.setIfInBounds_toArray, List.set_cons_zero, List.set_cons_succ, i64_w, i32_w]
                  rfl
                refine pure_ (i := 9) (N := some 47) (v := ?_) (a' := ?_) #[true, true, true, true, true, true, true, true, true, true, false, false, false, false, false, false, false, false, false, false, false, false, false, false, false, false, false, false, false] rfl rfl (any_of HT_.out (by kernel_rfl)) (fun _ _ _ h => h) (Or.inl ⟨by rfl, ?_⟩) ?_ ?_
                rotate_left
                · intro w'
                  go_simp
                  with_reducible rfl
                rotate_left
                · simp only [Act.put, List.setIfInBounds_toArray, List.set_cons_zero, List.set_cons_succ, i64_w, i32_w]
                  rfl
                refine pure_ (i := 10) (N := some 48) (v := ?_) (a' := ?_) #[true, true, true, true, true, true, true, true, true, true, true, false, false, false, false, false, false, false, false, false, false, false, false, false, false, false, false, false, false] rfl rfl (any_of HT_.out (by kernel_rfl)) (fun _ _ _ h => h) (Or.inl ⟨by rfl, ?_⟩) ?_ ?_
                rotate_left
                · intro w'
                  go_simp
                  with_reducible rfl
                rotate_left
                · simp only [Act.put, List.setIfInBounds_toArray, List.set_cons_zero, List.set_cons_succ, i64_w, i32_w]
                  rfl
                refine pure_ (i := 11) (N := some 49) (v := ?_) (a' := ?_) #[true, true, true, true, true, true, true, true, true, true, true, true, false, false, false, false, false, false, false, false, false, false, false, false, false, false, false, false, false] rfl rfl (any_of HT_.out (by kernel_rfl)) (fun _ _ _ h => h) (Or.inl ⟨by rfl, ?_⟩) ?_ ?_
                rotate_left
                · intro w'
                  go_simp
                  with_reducible rfl
                rotate_left
                · simp only [Act.put, List.setIfInBounds_toArray, List.set_cons_zero, List.set_cons_succ, i64_w, i32_w]
                  rfl
                refine pure_ (i := 12) (N := some 50) (v := ?_) (a' := ?_) #[true, true, true, true, true, true, true, true, true, true, true, true, true, false, false, false, false, false, false, false, false, false, false, false, false, false, false, false, false] rfl rfl (any_of HT_.out (by kernel_rfl)) (fun _ _ _ h => h) (Or.inl ⟨by rfl, ?_⟩) ?_ ?_
                rotate_left
                · intro w'
                  go_simp
                  with_reducible rfl
                rotate_left
                · simp only [Act.put, List.setIfInBounds_toArray, List.set_cons_zero, List.set_cons_succ, i64_w, i32_w]
                  rfl
                refine pure_ (i := 14) (N := some 52) (v := ?_) (a' := ?_) #[true, true, true, true, true, true, true, true, true, true, true, true, true, false, true, false, false, false, false, false, false, false, false, false, false, false, false, false, false] rfl rfl (any_of HT_.out (by kernel_rfl)) (fun _ _ _ h => h) (Or.inl ⟨by rfl, ?_⟩) ?_ ?_
                rotate_left
                · intro w'
                  go_simp
                  with_reducible rfl
                rotate_left
                · simp only [Act.put, List.setIfInBounds_toArray, List.set_cons_zero, List.set_cons_succ, i64_w, i32_w]
                  rfl
                refine pure_ (i := 17) (N := some 55) (v := ?_) (a' := ?_) #[true, true, true, true, true, true, true, true, true, true, true, true, true, false, true, false, false, true, false, false, false, false, false, false, false, false, false, false, false] rfl rfl (any_of HT_.out (by kernel_rfl)) (fun _ _ _ h => h) (Or.inl ⟨by rfl, ?_⟩) ?_ ?_
                rotate_left
                · intro w'
                  go_simp
                  with_reducible rfl
                rotate_left
                · simp only [Act.put, List.setIfInBounds_toArray, List.set_cons_zero, List.set_cons_succ, i64_w, i32_w]
                  rfl
                refine pure_ (i := 18) (N := some 56) (v := ?_) (a' := ?_) #[true, true, true, true, true, true, true, true, true, true, true, true, true, false, true, false, false, true, true, false, false, false, false, false, false, false, false, false, false] rfl rfl (any_of HT_.out (by kernel_rfl)) (fun _ _ _ h => h) (Or.inl ⟨by rfl, ?_⟩) ?_ ?_
                rotate_left
                · intro w'
                  go_simp
                  with_reducible rfl
                rotate_left
                · simp only [Act.put, List.setIfInBounds_toArray, List.set_cons_zero, List.set_cons_succ, i64_w, i32_w]
                  rfl
                refine pure_ (i := 19) (N := some 57) (v := ?_) (a' := ?_) #[true, true, true, true, true, true, true, true, true, true, true, true, true, false, true, false, false, true, true, true, false, false, false, false, false, false, false, false, false] rfl rfl (any_of HT_.out (by kernel_rfl)) (fun _ _ _ h => h) (Or.inl ⟨by rfl, ?_⟩) ?_ ?_
                rotate_left
                · intro w'
                  go_simp
                  with_reducible rfl
                rotate_left
                · simp only [Act.put, List.setIfInBounds_toArray, List.set_cons_zero, List.set_cons_succ, i64_w, i32_w]
                  rfl
                refine pure_ (i := 21) (N := some 59) (v := ?_) (a' := ?_) #[true, true, true, true, true, true, true, true, true, true, true, true, true, false, true, false, false, true, true, true, false, true, false, false, false, false, false, false, false] rfl rfl (any_of HT_.out (by kernel_rfl)) (fun _ _ _ h => h) (Or.inl ⟨by rfl, ?_⟩) ?_ ?_
                rotate_left
                · intro w'
                  go_simp
                  with_reducible rfl
                rotate_left
                · simp only [Act.put, List.setIfInBounds_toArray, List.set_cons_zero, List.set_cons_succ, i64_w, i32_w]
                  rfl
                refine pure_ (i := 22) (N := some 60) (v := ?_) (a' := ?_) #[true, true, true, true, true, true, true, true, true, true, true, true, true, false, true, false, false, true, true, true, false, true, true, false, false, false, false, false, false] rfl rfl (any_of HT_.out (by kernel_rfl)) (fun _ _ _ h => h) (Or.inl ⟨by rfl, ?_⟩) ?_ ?_
                rotate_left
                · intro w'
                  go_simp
                  with_reducible rfl
                rotate_left
                · simp only [Act.put, List.setIfInBounds_toArray, List.set_cons_zero, List.set_cons_succ, i64_w, i32_w]
                  rfl
                refine pure_ (i := 23) (N := some 61) (v := ?_) (a' := ?_) #[true, true, true, true, true, true, true, true, true, true, true, true, true, false, true, false, false, true, true, true, false, true, true, true, false, false, false, false, false] rfl rfl (any_of HT_.out (by kernel_rfl)) (fun _ _ _ h => h) (Or.inl ⟨by rfl, ?_⟩) ?_ ?_
                rotate_left
                · intro w'
                  go_simp
                  with_reducible rfl
                rotate_left
                · simp only [Act.put, List.setIfInBounds_toArray, List.set_cons_zero, List.set_cons_succ, i64_w, i32_w]
                  rfl
                refine take_ (i := 13) (N := some 51) (v := ?_) (a' := ?_) #[true, true, true, true, true, true, true, true, true, true, true, true, true, true, true, false, false, true, true, true, false, true, true, true, false, false, false, false, false] rfl rfl (take_ofW HT_.out HW_.out (by kernel_rfl)) (fun _ _ _ h => h) (Or.inl ⟨by rfl, ?_⟩) hHeld ?_ ?_
                rotate_left
                · rintro w' ⟨s0, s1, s2, s3, s4, s5, s6, s7⟩
                  go_simp
                  with_reducible rfl
                rotate_left
                · simp only [Act.put, List.setIfInBounds_toArray, List.set_cons_zero, List.set_cons_succ, i64_w, i32_w]
                  rfl
                refine take_ (i := 15) (N := some 53) (v := ?_) (a' := ?_) #[true, true, true, true, true, true, true, true, true, true, true, true, true, true, true, true, false, true, true, true, false, true, true, true, false, false, false, false, false] rfl rfl (take_ofW HT_.out HW_.out (by kernel_rfl)) (fun _ _ _ h => h) (Or.inl ⟨by rfl, ?_⟩) hHeld ?_ ?_
                rotate_left
                · rintro w' ⟨s0, s1, s2, s3, s4, s5, s6, s7⟩
                  go_simp
                  with_reducible rfl
                rotate_left
                · simp only [Act.put, List.setIfInBounds_toArray, List.set_cons_zero, List.set_cons_succ, i64_w, i32_w]
                  rfl
                refine pure_ (i := 16) (N := some 54) (v := ?_) (a' := ?_) #[true, true, true, true, true, true, true, true, true, true, true, true, true, true, true, true, true, true, true, true, false, true, true, true, false, false, false, false, false] rfl rfl (any_of HT_.out (by kernel_rfl)) (fun _ _ _ h => h) (Or.inl ⟨by rfl, ?_⟩) ?_ ?_
                rotate_left
                · intro w'
                  go_simp
                  with_reducible rfl
                rotate_left
                · simp only [Act.put, List.setIfInBounds_toArray, List.set_cons_zero, List.set_cons_succ, i64_w, i32_w]
                  rfl
                refine take_ (i := 20) (N := some 58) (v := ?_) (a' := ?_) #[true, true, true, true, true, true, true, true, true, true, true, true, true, true, true, true, true, true, true, true, true, true, true, true, false, false, false, false, false] rfl rfl (take_ofW HT_.out HW_.out (by kernel_rfl)) (fun _ _ _ h => h) (Or.inl ⟨by rfl, ?_⟩) hHeld ?_ ?_
                rotate_left
                · rintro w' ⟨s0, s1, s2, s3, s4, s5, s6, s7⟩
                  go_simp
                  with_reducible rfl
                rotate_left
                · simp only [Act.put, List.setIfInBounds_toArray, List.set_cons_zero, List.set_cons_succ, i64_w, i32_w]
                  rfl
                refine take_ (i := 24) (N := some 62) (v := ?_) (a' := ?_) #[true, true, true, true, true, true, true, true, true, true, true, true, true, true, true, true, true, true, true, true, true, true, true, true, true, false, false, false, false] rfl rfl (take_ofW HT_.out HW_.out (by kernel_rfl)) (fun _ _ _ h => h) (Or.inl ⟨by rfl, ?_⟩) hHeld ?_ ?_
                rotate_left
                · rintro w' ⟨s0, s1, s2, s3, s4, s5, s6, s7⟩
                  go_simp
                  with_reducible rfl
                rotate_left
                · simp only [Act.put, List.setIfInBounds_toArray, List.set_cons_zero, List.set_cons_succ, i64_w, i32_w]
                  rfl
                refine one_ (i := 25) (N := some 63) #[true, true, true, true, true, true, true, true, true, true, true, true, true, true, true, true, true, true, true, true, true, true, true, true, true, true, false, false, false] rfl rfl (one_of HT_.out (by kernel_rfl)) (by decide) (fun K hK => ?_)
                refine goes_ Tryd.func19 (by kernel_rfl) rfl #[.agg #[.bool ((rd_T44 t211 t220).f0), .slice A237_1 ((rd_T44 t211 t220).f1).length c237_1, .slice A237_2 ((rd_T44 t211 t220).f2).length c237_2], .agg #[.bool ((rd_T44 y228 t220).f0), .slice A238_1 ((rd_T44 y228 t220).f1).length c238_1, .slice A238_2 ((rd_T44 y228 t220).f2).length c238_2]] (by rfl) rfl rfl (by (try simp only [List.map_toArray, List.map_cons, List.map_nil]); first | done | rfl | (simp only [List.length_drop, List.length_take]; rfl)) ?_
                with_reducible refine (chirographkeep_sameSlot.calls ((rd_T44 t211 t220).f0) _ _ ((rd_T44 t211 t220).f1) _ _ ((rd_T44 t211 t220).f2) ((rd_T44 y228 t220).f0) _ _ ((rd_T44 y228 t220).f1) _ _ ((rd_T44 y228 t220).f2) t239 _ ?side1 ?side2 ?side3 ?side4 ?side5 ?side6 ?side7 ?side8 A17.out).mono ?_
                (case side1 => repeat (first | exact (by repeat (first | (with_reducible exact HR237_1.out) | (with_reducible refine Kd.C_alloc ?_ _) | (with_reducible refine Kd.C_drewN ?_ _) | (with_reducible refine Kd.C_drew ?_) | exact HR237_1.out)) | (with_reducible refine Kd.C_alloc ?_ _) | (with_reducible refine Kd.C_drewN ?_ _) | (with_reducible refine Kd.C_drew ?_)))
                (case side2 => exact HC237_1.out)
                (case side3 => repeat (first | exact (by repeat (first | (with_reducible exact HR237_2.out) | (with_reducible refine Kd.C_alloc ?_ _) | (with_reducible refine Kd.C_drewN ?_ _) | (with_reducible refine Kd.C_drew ?_) | exact HR237_2.out)) | (with_reducible refine Kd.C_alloc ?_ _) | (with_reducible refine Kd.C_drewN ?_ _) | (with_reducible refine Kd.C_drew ?_)))
                (case side4 => exact HC237_2.out)
                (case side5 => repeat (first | exact (by repeat (first | (with_reducible exact HR238_1.out) | (with_reducible refine Kd.C_alloc ?_ _) | (with_reducible refine Kd.C_drewN ?_ _) | (with_reducible refine Kd.C_drew ?_) | exact HR238_1.out)) | (with_reducible refine Kd.C_alloc ?_ _) | (with_reducible refine Kd.C_drewN ?_ _) | (with_reducible refine Kd.C_drew ?_)))
                (case side6 => exact HC238_1.out)
                (case side7 => repeat (first | exact (by repeat (first | (with_reducible exact HR238_2.out) | (with_reducible refine Kd.C_alloc ?_ _) | (with_reducible refine Kd.C_drewN ?_ _) | (with_reducible refine Kd.C_drew ?_) | exact HR238_2.out)) | (with_reducible refine Kd.C_alloc ?_ _) | (with_reducible refine Kd.C_drewN ?_ _) | (with_reducible refine Kd.C_drew ?_)))
                (case side8 => exact HC238_2.out)
                rintro e w34 ⟨rfl, hb⟩
                have HS2_ := (hb.cell (World.block_lt_of_cell? _ _ (hHeld.2.2.1))).trans (hHeld.2.2.1)
                have HS3_ := (hb.cell (World.block_lt_of_cell? _ _ (hHeld.2.2.2.1))).trans (hHeld.2.2.2.1)
                have HS4_ := (hb.cell (World.block_lt_of_cell? _ _ (hHeld.2.2.2.2.1))).trans (hHeld.2.2.2.2.1)
                have HS5_ := (hb.cell (World.block_lt_of_cell? _ _ (hHeld.2.2.2.2.2.1))).trans (hHeld.2.2.2.2.2.1)
                have HS6_ := (hb.cell (World.block_lt_of_cell? _ _ (hHeld.2.2.2.2.2.2.1))).trans (hHeld.2.2.2.2.2.2.1)
                have HS7_ := (hb.cell (World.block_lt_of_cell? _ _ (hHeld.2.2.2.2.2.2.2))).trans (hHeld.2.2.2.2.2.2.2)
                refine ⟨_, rfl, ?_⟩
                have n0_ := Aside0.mk (Kd.N_below (by (with_reducible repeat (first | apply Kd.N_alloc | apply Kd.N_drewN | apply Kd.N_drew)); exact HO213.out) hb)
                have n1_ := Aside0.mk (Kd.N_below (by (with_reducible repeat (first | apply Kd.N_alloc | apply Kd.N_drewN | apply Kd.N_drew)); exact HO219.out) hb)
                have n2_ := Aside0.mk (Kd.V_below (by (with_reducible repeat (first | apply Kd.V_alloc | apply Kd.V_drewN | apply Kd.V_drew)); exact HO227.out) hb)
                have n3_ := Aside0.mk (Kd.R_below (by (with_reducible repeat (first | apply Kd.R_alloc | apply Kd.R_drewN | apply Kd.R_drew)); exact HO232.out) hb)
                have n4_ := Aside0.mk (Kd.R_below (by (with_reducible repeat (first | apply Kd.R_alloc | apply Kd.R_drewN | apply Kd.R_drew)); exact HO236.out) hb)
                have n5_ := Aside0.mk (Kd.V_below (by (with_reducible repeat (first | apply Kd.V_alloc | apply Kd.V_drewN | apply Kd.V_drew)); exact HL237_1.out) hb)
                have n6_ := Aside0.mk (Kd.V_below (by (with_reducible repeat (first | apply Kd.V_alloc | apply Kd.V_drewN | apply Kd.V_drew)); exact HL237_2.out) hb)
                have n7_ := Aside0.mk (Kd.V_below (by (with_reducible repeat (first | apply Kd.V_alloc | apply Kd.V_drewN | apply Kd.V_drew)); exact HL238_1.out) hb)
                have n8_ := Aside0.mk (Kd.V_below (by (with_reducible repeat (first | apply Kd.V_alloc | apply Kd.V_drewN | apply Kd.V_drew)); exact HL238_2.out) hb)
                have n9_ := Aside0.mk (blk_below (g := gb210) (o := .cells #[.int .i64 a2_0, .int .i64 a2_1, .int .i64 a2_2, .string a2_3] 40 (0, 0)) (by (with_reducible repeat (first | refine blk_drewN ?_ _ | refine blk_drew ?_ | refine blk_alloc ?_ _)); exact BK210.out) hb)
                have n10_ := Aside0.mk (Kd.C_below (by repeat (first | (with_reducible exact HR237_1.out) | (with_reducible refine Kd.C_alloc ?_ _) | (with_reducible refine Kd.C_drewN ?_ _) | (with_reducible refine Kd.C_drew ?_) | exact HR237_1.out)) hb)
                have n11_ := Aside0.mk (Kd.C_below (by repeat (first | (with_reducible exact HR237_2.out) | (with_reducible refine Kd.C_alloc ?_ _) | (with_reducible refine Kd.C_drewN ?_ _) | (with_reducible refine Kd.C_drew ?_) | exact HR237_2.out)) hb)
                have n12_ := Aside0.mk (Kd.C_below (by repeat (first | (with_reducible exact HR238_1.out) | (with_reducible refine Kd.C_alloc ?_ _) | (with_reducible refine Kd.C_drewN ?_ _) | (with_reducible refine Kd.C_drew ?_) | exact HR238_1.out)) hb)
                have n13_ := Aside0.mk (Kd.C_below (by repeat (first | (with_reducible exact HR238_2.out) | (with_reducible refine Kd.C_alloc ?_ _) | (with_reducible refine Kd.C_drewN ?_ _) | (with_reducible refine Kd.C_drew ?_) | exact HR238_2.out)) hb)
                have n14_ := Aside0.mk (below_step (by repeat (first | (with_reducible first | exact HB.out | apply below_alloc | apply pw_below_drewN | apply below_drew1 | refine below_set ?_ GE210.out) | exact HB.out)) hb)
                clear HO213
                clear HO219
                clear HO227
                clear HO232
                clear HO236
                clear HL237_1
                clear HL237_2
                clear HL238_1
                clear HL238_2
                clear BK210
                clear HR237_1
                clear HR237_2
                clear HR238_1
                clear HR238_2
                clear HB
                have HO213 := n0_
                have HO219 := n1_
                have HO227 := n2_
                have HO232 := n3_
                have HO236 := n4_
                have HL237_1 := n5_
                have HL237_2 := n6_
                have HL238_1 := n7_
                have HL238_2 := n8_
                have BK210 := n9_
                have HR237_1 := n10_
                have HR237_2 := n11_
                have HR238_1 := n12_
                have HR238_2 := n13_
                have HB := n14_
                clear n0_ n1_ n2_ n3_ n4_ n5_ n6_ n7_ n8_ n9_ n10_ n11_ n12_ n13_ n14_
                (try clear hb)
                (try clear hb2)
                (try clear hk)
                (try clear hi)
                refine hK.out _ _ ⟨(own_string (P := Tryd.prog) Tryd.underlying34 Tryd.underlying5 Tryd.underlying9 (Kd.own_of_R HO232.out)), (own_string (P := Tryd.prog) Tryd.underlying34 Tryd.underlying5 Tryd.underlying9 (Kd.own_of_R HO236.out)), HS2_, HS3_, HS4_, HS5_, HS6_, HS7_⟩ (fun hHeld => ?_)
                clear hK K
                refine norm_ (a' := ?_) ?_ ?_
                rotate_left
                · show Act.put _ (some 63) _ = _
                  simp only [Act.put, List.setIfInBounds_toArray, List.set_cons_zero, List.set_cons_succ, i64_w, i32_w]
                  rfl
                refine pure_ (i := 26) (N := some 64) (v := ?_) (a' := ?_) #[true, true, true, true, true, true, true, true, true, true, true, true, true, true, true, true, true, true, true, true, true, true, true, true, true, true, true, false, false] rfl rfl (any_of HT_.out (by kernel_rfl)) (fun _ _ _ h => h) (Or.inl ⟨by rfl, ?_⟩) ?_ ?_
                rotate_left
                · intro w'
                  go_simp
                  with_reducible rfl
                rotate_left
                · simp only [Act.put, List.setIfInBounds_toArray, List.set_cons_zero, List.set_cons_succ, i64_w, i32_w]
                  rfl
                refine pure_ (i := 27) (N := some 65) (v := ?_) (a' := ?_) #[true, true, true, true, true, true, true, true, true, true, true, true, true, true, true, true, true, true, true, true, true, true, true, true, true, true, true, true, false] rfl rfl (any_of HT_.out (by kernel_rfl)) (fun _ _ _ h => h) (Or.inl ⟨by rfl, ?_⟩) ?_ ?_
                rotate_left
                · intro w'
                  go_simp
                  with_reducible rfl
                rotate_left
                · simp only [Act.put, List.setIfInBounds_toArray, List.set_cons_zero, List.set_cons_succ, i64_w, i32_w]
                  rfl
                refine pure_ (i := 28) (N := some 6) (v := ?_) (a' := ?_) #[true, true, true, true, true, true, true, true, true, true, true, true, true, true, true, true, true, true, true, true, true, true, true, true, true, true, true, true, true] rfl rfl (any_of HT_.out (by kernel_rfl)) (fun _ _ _ h => h) (Or.inl ⟨by rfl, ?_⟩) ?_ ?_
                rotate_left
                · intro w'
                  go_simp
                  with_reducible rfl
                rotate_left
                · simp only [Act.put, List.setIfInBounds_toArray, List.set_cons_zero, List.set_cons_succ, i64_w, i32_w]
                  rfl
                refine done_ (done_of HT_.out (by kernel_rfl)) ?_
                try go_wp2
                go_ret
                exact ⟨by first | rfl | (simp [errW_none, errW_some] <;> rfl) | (simp [*, errW_none, errW_some] <;> rfl), by repeat (first | (with_reducible first | exact HB.out | apply below_alloc | apply pw_below_drewN | apply below_drew1 | refine below_set ?_ GE210.out) | exact HB.out)⟩
              · rw [if_neg c16] at H
                exact absurd H (by simp)
            · rw [if_neg c15] at H
              have c15b0 : decide (0 < (t229.length : Int)) = false := decide_eq_false c15
              have c15b1 : decide (0 < t229.length) = false := decide_eq_false (by omega)
              clear c15
              exact absurd (Option.some.inj H) (by rw [hr_]; decide)
          · rw [if_neg c14] at H
            have c14b0 : (t234 == 0) = false := beq_eq_false_iff_ne.mpr c14
            have c14b1 : (t234 != 0) = true := bne_iff_ne.mpr c14
            exact absurd (Option.some.inj H) (by rw [hr_]; decide)
        · rw [if_neg c13] at H
          have c13b0 : (t230 == 0) = false := beq_eq_false_iff_ne.mpr c13
          have c13b1 : (t230 != 0) = true := bne_iff_ne.mpr c13
          exact absurd (Option.some.inj H) (by rw [hr_]; decide)
      · rw [if_neg c9] at H
        exact absurd H (by simp)
    · rw [if_neg c8] at H
      exact absurd H (by simp)
  · rw [if_neg c5] at H
    exact absurd H (by simp)

/-- THE ONE PURE STATEMENT of chirographkeep_SlotsApart. -/
def chirographkeep_SlotsApart.Pure : Prop := ∀ (l0 : List (S40)) (a1 : Int) (a2_0 : Int) (a2_1 : Int) (a2_2 : Int) (a2_3 : ByteArray), l0.length ≤ maxLen → l0.length * 40 ≤ 140737488351232 → (∀ x_ ∈ l0, ((Lit.int .i64 x_.f0).wf = true ∧ (Lit.int .i64 x_.f1).wf = true ∧ (Lit.int .i64 x_.f2).wf = true ∧ x_.f3.size ≤ maxLen)) → (Lit.int .i64 a1).wf = true → (Lit.int .i64 a2_0).wf = true → (Lit.int .i64 a2_1).wf = true → (Lit.int .i64 a2_2).wf = true → a2_3.size ≤ maxLen → ∃ k, chirographkeep_SlotsApart.f k l0 a1 a2_0 a2_1 a2_2 a2_3 = some true

end Go.Proofs.YtpgegljlgicpkaaDoor.QSlotsApart
