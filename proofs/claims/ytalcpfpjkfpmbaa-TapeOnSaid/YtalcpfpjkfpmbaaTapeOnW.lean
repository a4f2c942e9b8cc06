/- TapeOn: its walk. Conditions: none. -/
import Derived.Test.YtalcpfpjkfpmbaaTapeKeepsW
namespace Go.Proofs.Ytalcpfpjkfpmbaa.Vm
open Go Go.RowKit
set_option linter.unusedVariables false
set_option linter.unusedSimpArgs false
attribute [local irreducible] Ops Dr Run
variable {g : Nat → Option (List PV)}
set_option maxHeartbeats 4000000 in
theorem fnTapeOn {rs : List Rw} {r s : List Int} (af keep : Int) (hr : bOk r) (hs : bOk s) (hl : (rs.length : Int) ≤ 9223372036854775807) (hl2 : (r.length : Int) ≤ 9223372036854775807) (hl3 : (s.length : Int) ≤ 9223372036854775807) : FnC (En Try.prog g) 5 [.pv (.lst 4 (rs.map rawE)), .pv (byP r), .pv (byP s), .pv (.int .i64 af), .pv (.int .i64 keep)] (.pv (.bool true)) [] := by
  have hE := EnOk g
  have c1 := fnTaped (g := g) (rs := rs) hl
  have hl5 : (rs.take 8).length ≤ 8 := by rw [List.length_take]; omega
  generalize rs.take 8 = R at *
  have hrc : ∀ r ∈ R.map recP, rOk r ∧ r.length ≤ 61 := fun r hr => by
    obtain ⟨x, _, rfl⟩ := List.mem_map.1 hr
    exact ⟨recP_ok x, (recP_len x).2⟩
  have h8 : (R.map recP).length ≤ 8 := by simpa using hl5
  generalize R.map recP = rc at *
  obtain ⟨tg, t30⟩ := tp_ok hrc h8 rc.length (Nat.le_refl _)
  rw [List.take_length] at tg
  generalize tpL rc rc.length = L at *
  have hrk : ∀ r ∈ rc, rOk r := fun r hr => (hrc r hr).1
  have hfl := frms_len2 rc (fun r hr => (hrc r hr).2)
  have cp := fnPick (g := g) (a := af) (m := 12) (by omega) (by omega)
  obtain ⟨k, hk, hk0, hk1⟩ : ∃ k : Int, af % 12 = k ∧ 0 ≤ k ∧ k < 12 := ⟨_, rfl, by omega, by omega⟩
  rw [hk] at cp
  have hbr := begP_ok (c := 9) (by omega) hr
  have hbl := begP_len 9 r
  obtain ⟨M, hM⟩ : ∃ M : Int, (if (100 : Int) < (r.length : Int) then (100 : Int) else (r.length : Int)) = M := ⟨_, rfl⟩
  have hM0 : 0 ≤ M ∧ M ≤ 100 ∧ M ≤ r.length := by rw [← hM]; split <;> omega
  have hB0 : begP 9 r = [9] ++ r.take M.toNat := by unfold begP; rw [hM]; rfl
  have hys : (((r.map (PV.int .u8)).take M.toNat).drop (0 : Int).toNat) = (r.take M.toNat).map (PV.int .u8) := by rw [List.map_take]; rfl
  have hq : (r.take M.toNat).length ≤ 100 := by rw [List.length_take]; omega
  rw [hB0] at hbr hbl
  clear hB0
  generalize r.take M.toNat = Q at *
  have hsr := begP_ok (c := 8) (by omega) hs
  have hsl := begP_len 8 s
  obtain ⟨K, hK⟩ : ∃ K : Int, (if (100 : Int) < (s.length : Int) then (100 : Int) else (s.length : Int)) = K := ⟨_, rfl⟩
  have hK0 : 0 ≤ K ∧ K ≤ 100 ∧ K ≤ s.length := by rw [← hK]; split <;> omega
  have hS0 : begP 8 s = [8] ++ s.take K.toNat := by unfold begP; rw [hK]; rfl
  have hzs : (((s.map (PV.int .u8)).take K.toNat).drop (0 : Int).toNat) = (s.take K.toNat).map (PV.int .u8) := by rw [List.map_take]; rfl
  have hq2 : (s.take K.toNat).length ≤ 100 := by rw [List.length_take]; omega
  generalize s.take K.toNat = U at *
  obtain ⟨S, hS⟩ : ∃ S, begP 8 s = S := ⟨_, rfl⟩
  rw [hS] at hsr hsl hS0
  have hrm : (((r.map (PV.int .u8)).length : Nat) : Int) = r.length := by simp
  have hsm : (((s.map (PV.int .u8)).length : Nat) : Int) = s.length := by simp
  have ca := fnAppend (g := g) tg hrk hbr (by rw [t30]; omega) k (by omega)
  have hal : (frms rc ++ (hdr ([9] ++ Q) ++ ([9] ++ Q))).length = (frms rc).length + (6 + ([9] ++ Q).length) := by simp only [List.length_append, hdr_len]
  obtain ⟨z1, z2, z3, z4, z5⟩ := apR_ok tg (all := frms rc ++ (hdr ([9] ++ Q) ++ ([9] ++ Q))) (by rw [t30]; omega) (by omega) (by omega) (fun p hp => by rw [List.getElem?_append_left hp]) k
  have z5 := z5 (kB keep)
  generalize apR L (frms rc).length (frms rc ++ (hdr ([9] ++ Q) ++ ([9] ++ Q))) k = Z at *
  obtain ⟨L2, W2, dn⟩ := Z
  dsimp only at ca z1 z2 z3 z4 z5
  have cc := fnDCrash (g := g) z1 keep
  have hYl : (fl (kB keep) L2 W2 W2.length).length = 30 := by rw [fl_len, z2, t30]
  generalize fl (kB keep) L2 W2 W2.length = Y at *
  obtain ⟨G, hG, hGr, hGl, hGf⟩ : ∃ G, TG Y (frms G) ∧ (∀ r ∈ G, rOk r) ∧ G.length ≤ 9 ∧ (frms G).length ≤ 643 := by
    rcases z5 with ⟨hY, _⟩ | hY
    · exact ⟨rc, hY, hrk, by omega, by omega⟩
    · refine ⟨rc ++ [[9] ++ Q], by rw [frms_snoc]; exact hY, fun x hx => ?_, by simp; omega, by rw [frms_snoc, hal]; omega⟩
      rcases List.mem_append.1 hx with hx | hx
      · exact hrk x hx
      · rw [List.mem_singleton.1 hx]; exact hbr
  have co := fnOpen (g := g) hG hGr
  have cb := fnAppend (g := g) hG hGr hsr (by rw [hYl]; omega) (-1) (by omega)
  have hbal : (frms G ++ (hdr S ++ S)).length = (frms G).length + (6 + S.length) := by simp [hdr_len]
  obtain ⟨_, y2, y3, y4, _⟩ := apR_ok hG (all := frms G ++ (hdr S ++ S)) (by rw [hYl]; omega) (by omega) (by omega) (fun p hp => by rw [List.getElem?_append_left hp]) (-1)
  have e3 := y3 (.inl (by omega))
  obtain ⟨e4, e5⟩ := y4 e3
  rw [e3, e4] at cb
  generalize apR Y (frms G).length (frms G ++ (hdr S ++ S)) (-1) = V at *
  obtain ⟨L3, W3, dn3⟩ := V
  dsimp only at cb e5
  rw [← frms_snoc] at e5
  have hGr2 : ∀ x ∈ G ++ [S], rOk x := fun x hx => by
    rcases List.mem_append.1 hx with hx | hx
    · exact hGr x hx
    · rw [List.mem_singleton.1 hx]; exact hsr
  have cg := fnOpen (g := g) e5 hGr2
  have csm := fnSameLists (g := g) (ps := G ++ [S]) (by simp; omega)
  clear z1 z2 z3 z4 z5 e5 e3 e4 y2 y3 y4 hG tg hGr2 hGr hrk hrc
  refine FnC.of Try.func5 rfl rfl rfl rfl ?_
  repeat (first | refine Run.seq ?_ | refine Run.skip ?_ | refine Run.block ?_)
  refine Run.region ?_
  refine O.assign rfl rfl ?_
  refine O.nil ?_
  try refine Run.keep [0, 1, 2, 3, 4, 10, 11, 13, 14, 16, 17, 18, 19, 20, 21, 22, 23, 24, 25, 26] rfl rfl ?_
  repeat (first | refine Run.seq ?_ | refine Run.skip ?_ | refine Run.block ?_)
  refine Run.region ?_
  refine O.move rfl rfl ?_
  refine O.callE c1 rfl (by first | rfl | simp [closed, men3, mens2_app, mens2_ints, mens2, men2, men1, mens1_app, mens1_ints, mens1]) (by first | rfl | simp [d2, ds1_ints, ds1_app, ds1, d1, ds0_app, ds0_ints, ds0, d0]) rfl ?_
  refine O.move rfl rfl ?_
  refine O.extract rfl rfl rfl ?_
  refine O.extract rfl rfl rfl ?_
  refine O.extract rfl rfl rfl ?_
  refine O.alloc hE 11 T26 rfl rfl rfl ?_
  refine O.store hE T26 rfl rfl rfl rfl rfl rfl ?_
  refine O.assign rfl rfl ?_
  refine O.assign rfl rfl ?_
  refine O.nil ?_
  try refine Run.keep [0, 1, 2, 3, 4, 10, 11, 13, 14, 16, 17, 18, 19, 20, 21, 22, 23, 24, 25, 26] rfl rfl ?_
  repeat (first | refine Run.seq ?_ | refine Run.skip ?_ | refine Run.block ?_)
  refine Run.draw mixed rfl ?_
  refine D.load hE T26 rfl rfl rfl rfl ?_
  refine D.lit hE 35 [] T32 rfl T5 rfl rfl (xs := [PV.int .u8 9]) rfl BxIn.nil rfl rfl rfl rfl rfl ?_
  refine D.move rfl rfl ?_
  refine D.move rfl rfl ?_
  refine D.lenLstQ hE T32 rfl rfl hrm rfl ?_
  refine D.minI (r := M) rfl rfl hM rfl ?_
  refine D.sliceP hE T32 rfl T5 rfl rfl rfl rfl (by omega) (by omega) (by simp only [List.length_map]; omega) hys rfl ?_
  refine D.appM (PV.int .u8) (q := [9]) (r := Q) hE T32 rfl T5 rfl rfl rfl rfl rfl newest_pv rfl rfl rfl rfl (by simp; omega) (by simp [maxLen]; omega) rfl ?_
  refine D.move rfl rfl ?_
  refine D.callE cp rfl (by first | rfl | simp [closed, men3, mens2_app, mens2_ints, mens2, men2, men1, mens1_app, mens1_ints, mens1]) (by first | rfl | simp [d2, ds1_ints, ds1_app, ds1, d1, ds0_app, ds0_ints, ds0, d0]) rfl ?_
  refine D.callF [(35, .lst 5 1 (([9] ++ Q).map (PV.int .u8)))] ca rfl (.cons (AVle.of_eq rfl) (.cons (AVle.lst _ _ _ (lstOf_glV rfl (by simp))) (.cons (AVle.of_eq rfl) .nil))) (.cons rfl .nil) rfl rfl rfl ?_
  refine D.move rfl rfl ?_
  refine D.extract rfl rfl rfl ?_
  refine D.extract rfl rfl rfl ?_
  refine D.extract rfl rfl rfl ?_
  refine D.alloc hE 14 T26 rfl rfl rfl ?_
  refine D.store hE T26 rfl rfl rfl rfl rfl rfl ?_
  refine D.assign rfl rfl ?_
  refine D.assign rfl rfl ?_
  refine Dr.nil ?_
  refine ⟨rfl, ?_⟩
  try refine Run.keep [0, 1, 2, 3, 4, 10, 11, 13, 14, 16, 17, 18, 19, 20, 21, 22, 23, 24, 25, 26] rfl rfl ?_
  repeat (first | refine Run.seq ?_ | refine Run.skip ?_ | refine Run.block ?_)
  refine Run.region ?_
  refine O.load hE T26 rfl rfl rfl rfl ?_
  refine O.move rfl rfl ?_
  refine O.callE cc rfl (by first | rfl | simp [closed, men3, mens2_app, mens2_ints, mens2, men2, men1, mens1_app, mens1_ints, mens1]) (by first | rfl | simp [d2, ds1_ints, ds1_app, ds1, d1, ds0_app, ds0_ints, ds0, d0]) rfl ?_
  refine O.move rfl rfl ?_
  refine O.extract rfl rfl rfl ?_
  refine O.extract rfl rfl rfl ?_
  refine O.alloc hE 17 T26 rfl rfl rfl ?_
  refine O.store hE T26 rfl rfl rfl rfl rfl rfl ?_
  refine O.assign rfl rfl ?_
  refine O.nil ?_
  try refine Run.keep [0, 1, 2, 3, 4, 10, 11, 13, 14, 16, 17, 18, 19, 20, 21, 22, 23, 24, 25, 26] rfl rfl ?_
  repeat (first | refine Run.seq ?_ | refine Run.skip ?_ | refine Run.block ?_)
  refine Run.region ?_
  refine O.load hE T26 rfl rfl rfl rfl ?_
  refine O.call (bs' := []) 300 co (.cons (AVle.of_eq rfl) .nil) rfl rfl rfl rfl rfl rfl rfl ?_
  refine O.move rfl rfl ?_
  refine O.extract rfl rfl rfl ?_
  refine O.extract rfl rfl rfl ?_
  refine O.assign rfl rfl ?_
  refine O.assign rfl rfl ?_
  refine O.nil ?_
  try refine Run.keep [0, 1, 2, 3, 4, 10, 11, 13, 14, 16, 17, 18, 19, 20, 21, 22, 23, 24, 25, 26] rfl rfl ?_
  repeat (first | refine Run.seq ?_ | refine Run.skip ?_ | refine Run.block ?_)
  refine Run.region ?_
  refine O.lit hE 59 T32 rfl T5 rfl rfl (xs := [PV.int .u8 8]) rfl rfl rfl rfl rfl rfl ?_
  refine O.move rfl rfl ?_
  refine O.move rfl rfl ?_
  refine O.lenN hE T32 rfl rfl rfl newest_pv hsm rfl ?_
  refine O.minI (r := K) rfl rfl hK rfl ?_
  refine O.slice hE T32 rfl T5 rfl rfl newest_pv rfl rfl rfl (by omega) (by omega) (by simp only [List.length_map]; omega) hzs rfl ?_
  refine O.appI (q := [8]) (r := U) hE T32 rfl T5 rfl rfl rfl rfl rfl newest_pv rfl rfl rfl rfl (by simp; omega) (by simp [maxLen]; omega) rfl ?_
  refine O.assign rfl rfl ?_
  refine O.nil ?_
  try refine Run.keep [0, 1, 2, 3, 4, 10, 11, 13, 14, 16, 17, 18, 19, 20, 21, 22, 23, 24, 25, 26] rfl rfl ?_
  refine Run.pre (s1 := ⟨118, [(13, .pv (.bool true)), (16, .pv (.int .i64 0)), (17, .ptr 17 0), (18, .pv (.int .i64 0)), (19, .pv (.lst 1 (G.map byP))), (20, .pv (.int .i64 0)), (21, .pv (byP S))], [(17, .var [.pv (.lst 32 (Y.map secE)), .pv (.lst 33 ([].map putE))])]⟩) ?_ ?_
  ·
    rw [hS0]
    refine SLe.by rfl ?_ (BxsLe.cons rfl (.refl _) .nil) rfl rfl
    exact TmLe.cons (AVle.of_eq rfl) (TmLe.cons (AVle.of_eq rfl) (TmLe.cons (AVle.of_eq rfl) (TmLe.cons (AVle.of_eq rfl) (TmLe.cons (AVle.lst _ _ _ (lstOf_glV (e := 32) rfl (by simp))) (TmLe.cons (AVle.of_eq rfl) (TmLe.cons (AVle.lst _ _ _ (lstOf_glV (e := 5) rfl (by simp))) .nil))))))
  repeat (first | refine Run.seq ?_ | refine Run.skip ?_ | refine Run.block ?_)
  refine Run.region ?_
  refine O.load hE T26 rfl rfl rfl rfl ?_
  refine O.move rfl rfl ?_
  refine O.callE cb rfl (by first | rfl | simp [closed, men3, mens2_app, mens2_ints, mens2, men2, men1, mens1_app, mens1_ints, mens1]) (by first | rfl | simp [d2, ds1_ints, ds1_app, ds1, d1, ds0_app, ds0_ints, ds0, d0]) rfl ?_
  refine O.move rfl rfl ?_
  refine O.extract rfl rfl rfl ?_
  refine O.extract rfl rfl rfl ?_
  refine O.extract rfl rfl rfl ?_
  refine O.alloc hE 22 T26 rfl rfl rfl ?_
  refine O.store hE T26 rfl rfl rfl rfl rfl rfl ?_
  refine O.assign rfl rfl ?_
  refine O.assign rfl rfl ?_
  refine O.nil ?_
  try refine Run.keep [0, 1, 2, 3, 4, 10, 11, 13, 14, 16, 17, 18, 19, 20, 21, 22, 23, 24, 25, 26] rfl rfl ?_
  repeat (first | refine Run.seq ?_ | refine Run.skip ?_ | refine Run.block ?_)
  refine Run.region ?_
  refine O.load hE T26 rfl rfl rfl rfl ?_
  refine O.call (bs' := []) 300 cg (.cons (AVle.of_eq rfl) .nil) rfl rfl rfl rfl rfl rfl rfl ?_
  refine O.move rfl rfl ?_
  refine O.extract rfl rfl rfl ?_
  refine O.extract rfl rfl rfl ?_
  refine O.assign rfl rfl ?_
  refine O.assign rfl rfl ?_
  refine O.nil ?_
  try refine Run.keep [0, 1, 2, 3, 4, 10, 11, 13, 14, 16, 17, 18, 19, 20, 21, 22, 23, 24, 25, 26] rfl rfl ?_
  refine Run.pre (s1 := ⟨118, [(13, .pv (.bool true)), (16, .pv (.int .i64 0)), (18, .pv (.int .i64 0)), (19, .pv (.lst 1 (G.map byP))), (20, .pv (.int .i64 0)), (21, .pv (byP S)), (22, .ptr 22 0), (23, .pv (.bool true)), (24, .pv (.int .i64 0)), (25, .pv (.lst 1 ((G ++ [S]).map byP))), (26, .pv (.int .i64 0))], [(22, .var [.pv (.lst 32 (L3.map secE)), .pv (.lst 33 ([].map putE))])]⟩) ?_ ?_
  ·
    refine SLe.by rfl ?_ (BxsLe.cons rfl (.refl _) .nil) rfl rfl
    exact TmLe.cons (AVle.of_eq rfl) (TmLe.cons (AVle.of_eq rfl) (TmLe.cons (AVle.of_eq rfl) (TmLe.cons (AVle.of_eq rfl) (TmLe.cons (AVle.of_eq rfl) (TmLe.cons (AVle.of_eq rfl) (TmLe.cons (AVle.of_eq rfl) (TmLe.cons (AVle.of_eq rfl) (TmLe.cons (AVle.of_eq rfl) (TmLe.cons (AVle.lst _ _ _ (lstOf_glV (e := 32) rfl (by simp))) (TmLe.cons (AVle.of_eq rfl) .nil))))))))))
  repeat (first | refine Run.seq ?_ | refine Run.skip ?_ | refine Run.block ?_)
  refine Run.region ?_
  refine O.move rfl rfl ?_
  refine O.move rfl rfl ?_
  first | (refine O.yes rfl rfl (by first | rfl | assumption) ?_; refine O.move rfl rfl ?_) | refine O.no rfl rfl rfl rfl ?_
  first | (refine O.yes rfl rfl (by first | rfl | assumption) ?_; first | refine O.cmp rfl rfl rfl (by first | exact decide_eq_true (by omega) | exact decide_eq_false (by omega)) rfl ?_ | refine O.cmp rfl rfl rfl rfl rfl ?_) | refine O.no rfl rfl rfl rfl ?_
  refine O.pick rfl rfl rfl rfl rfl ?_
  refine O.move rfl rfl ?_
  first | (refine O.yes rfl rfl (by first | rfl | assumption) ?_; refine O.move rfl rfl ?_) | refine O.no rfl rfl rfl rfl ?_
  first | (refine O.yes rfl rfl (by first | rfl | assumption) ?_; first | refine O.cmp rfl rfl rfl (by first | exact decide_eq_true (by omega) | exact decide_eq_false (by omega)) rfl ?_ | refine O.cmp rfl rfl rfl rfl rfl ?_) | refine O.no rfl rfl rfl rfl ?_
  refine O.pick rfl rfl rfl rfl rfl ?_
  refine O.move rfl rfl ?_
  first | (refine O.yes rfl rfl (by first | rfl | assumption) ?_; refine O.move rfl rfl ?_) | refine O.no rfl rfl rfl rfl ?_
  first | (refine O.yes rfl rfl (by first | rfl | assumption) ?_; first | refine O.cmp rfl rfl rfl (by first | exact decide_eq_true (by omega) | exact decide_eq_false (by omega)) rfl ?_ | refine O.cmp rfl rfl rfl rfl rfl ?_) | refine O.no rfl rfl rfl rfl ?_
  refine O.pick rfl rfl rfl rfl rfl ?_
  refine O.move rfl rfl ?_
  first | (refine O.yes rfl rfl (by first | rfl | assumption) ?_; refine O.move rfl rfl ?_) | refine O.no rfl rfl rfl rfl ?_
  first | (refine O.yes rfl rfl (by first | rfl | assumption) ?_; first | refine O.cmp rfl rfl rfl (by first | exact decide_eq_true (by omega) | exact decide_eq_false (by omega)) rfl ?_ | refine O.cmp rfl rfl rfl rfl rfl ?_) | refine O.no rfl rfl rfl rfl ?_
  refine O.pick rfl rfl rfl rfl rfl ?_
  refine O.move rfl rfl ?_
  first | (refine O.yes rfl rfl (by first | rfl | assumption) ?_; refine O.move rfl rfl ?_) | refine O.no rfl rfl rfl rfl ?_
  first | (refine O.yes rfl rfl (by first | rfl | assumption) ?_; first | refine O.cmp rfl rfl rfl (by first | exact decide_eq_true (by omega) | exact decide_eq_false (by omega)) rfl ?_ | refine O.cmp rfl rfl rfl rfl rfl ?_) | refine O.no rfl rfl rfl rfl ?_
  refine O.pick rfl rfl rfl rfl rfl ?_
  refine O.move rfl rfl ?_
  first | (refine O.yes rfl rfl (by first | rfl | assumption) ?_; refine O.move rfl rfl ?_) | refine O.no rfl rfl rfl rfl ?_
  refine O.pick rfl rfl rfl rfl rfl ?_
  refine O.move rfl rfl ?_
  first | (refine O.yes rfl rfl (by first | rfl | assumption) ?_; refine O.field hE L26 rfl rfl rfl rfl ?_) | refine O.no rfl rfl rfl rfl ?_
  first | (refine O.yes rfl rfl (by first | rfl | assumption) ?_; first | refine O.loadS hE T24 rfl rfl rfl (by rfl) rfl ?_ | refine O.loadE hE T24 rfl rfl (by rfl) rfl ?_ | refine O.load hE T24 rfl rfl rfl rfl ?_) | refine O.no rfl rfl rfl rfl ?_
  first | (refine O.yes rfl rfl (by first | rfl | assumption) ?_; refine O.lenN (m := 0) hE T24 rfl rfl rfl newest_pv rfl rfl ?_) | refine O.no rfl rfl rfl rfl ?_
  first | (refine O.yes rfl rfl (by first | rfl | assumption) ?_; first | refine O.cmp rfl rfl rfl (by first | exact decide_eq_true (by omega) | exact decide_eq_false (by omega)) rfl ?_ | refine O.cmp rfl rfl rfl rfl rfl ?_) | refine O.no rfl rfl rfl rfl ?_
  refine O.pick rfl rfl rfl rfl rfl ?_
  refine O.move rfl rfl ?_
  first | (refine O.yes rfl rfl (by first | rfl | assumption) ?_; refine O.move rfl rfl ?_) | refine O.no rfl rfl rfl rfl ?_
  first | (refine O.yes rfl rfl (by first | rfl | assumption) ?_; refine O.lit hE 110 T33 rfl T32 rfl rfl (xs := []) rfl rfl rfl rfl rfl rfl ?_) | refine O.no rfl rfl rfl rfl ?_
  first | (refine O.yes rfl rfl (by first | rfl | assumption) ?_; refine O.move rfl rfl ?_) | refine O.no rfl rfl rfl rfl ?_
  first | (refine O.yes rfl rfl (by first | rfl | assumption) ?_; refine O.appM byP (q := []) (r := G) hE T33 rfl T32 rfl rfl rfl rfl rfl newest_pv rfl rfl rfl rfl (by simp; omega) (by simp [maxLen]; omega) rfl ?_) | refine O.no rfl rfl rfl rfl ?_
  first | (refine O.yes rfl rfl (by first | rfl | assumption) ?_; refine O.move rfl rfl ?_) | refine O.no rfl rfl rfl rfl ?_
  first | (refine O.yes rfl rfl (by first | rfl | assumption) ?_; refine O.litV (xs := [S].map byP) hE T33 rfl T32 rfl rfl rfl rfl rfl rfl rfl ?_) | refine O.no rfl rfl rfl rfl ?_
  first | (refine O.yes rfl rfl (by first | rfl | assumption) ?_; refine O.appM byP (q := G) (r := [S]) hE T33 rfl T32 rfl rfl rfl rfl rfl newest_pv rfl rfl rfl rfl (by simp; omega) (by simp [maxLen]; omega) rfl ?_) | refine O.no rfl rfl rfl rfl ?_
  first | (refine O.yes rfl rfl (by first | rfl | assumption) ?_; refine O.callF csm (.cons (AVle.of_eq rfl) (.cons (AVle.lst _ _ _ (lstOf_glV rfl (by simp))) .nil)) rfl rfl rfl ?_) | refine O.no rfl rfl rfl rfl ?_
  refine O.pick rfl rfl rfl rfl rfl ?_
  refine O.assign rfl rfl ?_
  refine O.nil ?_
  try refine Run.keep [0, 1, 2, 3, 4, 10, 11, 13, 14, 16, 17, 18, 19, 20, 21, 22, 23, 24, 25, 26] rfl rfl ?_
  (repeat (first | refine Run.seq ?_ | refine Run.skip ?_)); (try refine Run.ret ?_); first | exact Ends.flat hE (.inr rfl) rfl rfl (AVle.of_eq rfl) rfl | exact Ends.flat hE (.inl rfl) rfl rfl (AVle.of_eq rfl) rfl
end Go.Proofs.Ytalcpfpjkfpmbaa.Vm
