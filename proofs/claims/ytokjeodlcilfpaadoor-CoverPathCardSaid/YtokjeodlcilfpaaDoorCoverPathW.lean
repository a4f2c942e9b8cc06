/- CoverPath: its walk. Conditions: the table of steps has 64 words. -/
import Derived.Test.YtokjeodlcilfpaaDoorCoverE
namespace Go.Proofs.YtokjeodlcilfpaaDoor.Vm
open Go Go.RowKit
set_option linter.unusedVariables false
set_option linter.unusedSimpArgs false
attribute [local irreducible] Ops Dr Run digP covP
variable {g : Nat → Option (List PV)}
theorem bit_hot {i j : Nat} (hi : i < 16) (hj : j < 16) : bitO ((2 ^ i : Nat) : Int) j = decide (i = j) := by
  have key : ∀ x y : Fin 16, bitO ((2 ^ x.val : Nat) : Int) y.val = decide (x.val = y.val) := by decide +kernel
  exact key ⟨i, hi⟩ ⟨j, hj⟩
theorem bit_of {i j : Nat} (hi : i < 16) (hj : j < 4) : bitO (i : Int) j = decide (i / 2 ^ j % 2 = 1) := by
  have key : ∀ (x : Fin 16) (y : Fin 4), bitO (x.val : Int) y.val = decide (x.val / 2 ^ y.val % 2 = 1) := by decide +kernel
  exact key ⟨i, hi⟩ ⟨j, hj⟩
theorem fnCoverPath {T : List Int → List Int → List Int} (hT : Feeds g T) {rs : List Rw} (n0 at0 : Int) (hl : (rs.length : Int) ≤ 9223372036854775807) : FnC (En Tryd.prog g) 4 [.pv (.int .i64 n0), .pv (.lst 4 (rs.map rawE)), .pv (.int .i64 at0)] (.pv (.bool true)) [] := by
  have hE := EnOk g
  have c1 := fnModeOf (g := g) n0
  have hm := mode_ok n0
  generalize 1 + n0 % 2 = mode at *
  obtain ⟨k, ss, hk, hss, hsok, c2⟩ := slotsOf_ex (g := g) (rs := rs) hl
  have h16 : 2 ^ k ≤ 16 := Nat.pow_le_pow_right (n := 2) (j := 4) (by decide) (by omega)
  have hpos : 1 ≤ 2 ^ k := Nat.pow_pos (by decide)
  have c3 := fnPick (g := g) (a := at0) (m := ss.length) (by omega) (by omega)
  have hi : 0 ≤ at0 % (ss.length : Int) ∧ at0 % (ss.length : Int) < ss.length := ⟨Int.emod_nonneg _ (by omega), Int.emod_lt_of_pos _ (by omega)⟩
  generalize at0 % (ss.length : Int) = i0 at *
  obtain ⟨i, rfl⟩ : ∃ i : Nat, i0 = i := ⟨i0.toNat, by omega⟩
  have hil : i < ss.length := by omega
  obtain ⟨s, hsi⟩ : ∃ s, ss[i]? = some s := ⟨_, List.getElem?_eq_getElem hil⟩
  have hR := tree_ok hT hm (k := k) (by omega) (r := ss.map (leafP (digP T mode))) (by simp [hss]) (fun p hp => by obtain ⟨s, hs, rfl⟩ := List.mem_map.1 hp; exact leaf_len (hsok s hs)) (fun p hp => by obtain ⟨s, hs, rfl⟩ := List.mem_map.1 hp; exact digP_pos _ _)
  have c4 := fnPathS hT hm hk hss hsok hR rfl hil
  have c5 := fnOpens (g := g) (ss := ss) ((2 ^ i : Nat) : Int) (by omega)
  have hhot : (List.range ss.length).map (bitO ((2 ^ i : Nat) : Int)) = hot (2 ^ k) i := by
    unfold hot
    rw [hss]
    exact List.map_congr_left fun j hj => bit_hot (by omega) (by have := List.mem_range.1 hj; omega)
  rw [hhot] at c5
  have hol : (hot (2 ^ k) i).length = ss.length := by simp [hot, hss]
  have c6 := fnCoverOf hT hm hk hss hol hsok
  have hcov := covP_hot (D := digP T mode) k ss i s hss hsi
  rw [hcov] at c6
  obtain ⟨P, hP⟩ : ∃ P : Nat → List Int, (fun j => (upN (digP T mode) (ss.map (leafP (digP T mode))) j).getD (sib (i / 2 ^ j)) []) = P := ⟨_, rfl⟩
  rw [hP] at c6
  have hsb : sibs (upN (digP T mode) (ss.map (leafP (digP T mode)))) i k = (List.range k).map P := by rw [← hP]; rfl
  rw [hsb] at c4
  generalize hot (2 ^ k) i = os at *
  clear hR hcov hP hsb hhot
  have c7 := fnSameSlot (g := g) s
  have hlr := lr_len (P := P) (i := i) k
  have c8 := fnSameLists (g := g) (ps := lefts P i k ++ rights P i k) (by rw [List.length_append]; omega)
  have hV : IntKind.i64.wrap (1 * 2 ^ (min (i : Int).toNat IntKind.i64.bits)) = ((2 ^ i : Nat) : Int) := by
    have h1 : min (i : Int).toNat IntKind.i64.bits = i := by rw [Int.toNat_natCast]; show min i 64 = i; omega
    have h2 : (2 : Int) ^ i = ((2 ^ i : Nat) : Int) := by simp
    have h3 : 2 ^ i ≤ 2 ^ 15 := Nat.pow_le_pow_right (by decide) (by omega)
    rw [h1, Int.one_mul, h2]
    generalize 2 ^ i = z at h3 ⊢
    exact wrap_i64 (by omega) (by omega)
  have hsm : (ss.map slE).length = ss.length := by simp
  have hPl : ((List.range k).map P).length = k := by simp
  have hat2 : (ss.map slE)[(i : Int).toNat]? = some (slE s) := by rw [Int.toNat_natCast, List.getElem?_map, hsi]; rfl
  refine FnC.of Tryd.func4 rfl rfl rfl rfl ?_
  repeat (first | refine Run.seq ?_ | refine Run.skip ?_ | refine Run.block ?_)
  refine Run.region ?_
  refine O.assign rfl rfl ?_
  refine O.nil ?_
  try refine Run.keep [0, 1, 2, 6, 7, 8, 9, 10, 11, 12, 13, 14, 15, 16, 17, 43, 44, 45, 46, 54] rfl rfl ?_
  repeat (first | refine Run.seq ?_ | refine Run.skip ?_ | refine Run.block ?_)
  refine Run.region ?_
  refine O.move rfl rfl ?_
  refine O.callE c1 rfl (by first | rfl | simp [closed, men3, mens2_app, mens2_ints, mens2, men2, men1, mens1_app, mens1_ints, mens1]) (by first | rfl | simp [d2, ds1_ints, ds1_app, ds1, d1, ds0_app, ds0_ints, ds0, d0]) rfl ?_
  refine O.move rfl rfl ?_
  refine O.callE c2 rfl (by first | rfl | simp [closed, men3, mens2_app, mens2_ints, mens2, men2, men1, mens1_app, mens1_ints, mens1]) (by first | rfl | simp [d2, ds1_ints, ds1_app, ds1, d1, ds0_app, ds0_ints, ds0, d0]) rfl ?_
  refine O.assign rfl rfl ?_
  refine O.assign rfl rfl ?_
  refine O.nil ?_
  try refine Run.keep [0, 1, 2, 6, 7, 8, 9, 10, 11, 12, 13, 14, 15, 16, 17, 43, 44, 45, 46, 54] rfl rfl ?_
  repeat (first | refine Run.seq ?_ | refine Run.skip ?_ | refine Run.block ?_)
  refine Run.region ?_
  refine O.move rfl rfl ?_
  refine O.move rfl rfl ?_
  first | refine O.lenN hE T23 rfl rfl rfl (by first | exact newest_pv | exact newest_gl rfl rfl | trivial) lenC rfl ?_ | refine O.lenLst hE T23 rfl rfl rfl (by first | exact newest_pv | exact newest_gl rfl rfl | trivial) rfl ?_
  refine O.callE c3 rfl (by first | rfl | simp [closed, men3, mens2_app, mens2_ints, mens2, men2, men1, mens1_app, mens1_ints, mens1]) (by first | rfl | simp [d2, ds1_ints, ds1_app, ds1, d1, ds0_app, ds0_ints, ds0, d0]) rfl ?_
  refine O.assign rfl rfl ?_
  refine O.nil ?_
  try refine Run.keep [0, 1, 2, 6, 7, 8, 9, 10, 11, 12, 13, 14, 15, 16, 17, 43, 44, 45, 46, 54] rfl rfl ?_
  repeat (first | refine Run.seq ?_ | refine Run.skip ?_ | refine Run.block ?_)
  refine Run.region ?_
  refine O.move rfl rfl ?_
  refine O.move rfl rfl ?_
  refine O.move rfl rfl ?_
  refine O.callE c4 rfl (by first | rfl | simp [closed, men3, mens2_app, mens2_ints, mens2, men2, men1, mens1_app, mens1_ints, mens1]) (by first | rfl | simp [d2, ds1_ints, ds1_app, ds1, d1, ds0_app, ds0_ints, ds0, d0]) rfl ?_
  refine O.move rfl rfl ?_
  refine O.extract rfl rfl rfl ?_
  refine O.extract rfl rfl rfl ?_
  refine O.assign rfl rfl ?_
  refine O.assign rfl rfl ?_
  refine O.nil ?_
  try refine Run.keep [0, 1, 2, 6, 7, 8, 9, 10, 11, 12, 13, 14, 15, 16, 17, 43, 44, 45, 46, 54] rfl rfl ?_
  repeat (first | refine Run.seq ?_ | refine Run.skip ?_ | refine Run.block ?_)
  refine Run.region ?_
  refine O.move rfl rfl ?_
  refine O.move rfl rfl ?_
  refine O.move rfl rfl ?_
  refine O.move rfl rfl ?_
  refine O.shl rfl rfl (by omega) rfl ?_; rw [hV]
  refine O.callE c5 rfl (by first | rfl | simp [closed, men3, mens2_app, mens2_ints, mens2, men2, men1, mens1_app, mens1_ints, mens1]) (by first | rfl | simp [d2, ds1_ints, ds1_app, ds1, d1, ds0_app, ds0_ints, ds0, d0]) rfl ?_
  refine O.callE c6 rfl (by first | rfl | simp [closed, men3, mens2_app, mens2_ints, mens2, men2, men1, mens1_app, mens1_ints, mens1]) (by first | rfl | simp [d2, ds1_ints, ds1_app, ds1, d1, ds0_app, ds0_ints, ds0, d0]) rfl ?_
  refine O.move rfl rfl ?_
  refine O.extract rfl rfl rfl ?_
  refine O.extract rfl rfl rfl ?_
  refine O.alloc hE 12 T29 rfl rfl rfl ?_
  refine O.store hE T29 rfl rfl rfl rfl rfl rfl ?_
  refine O.assign rfl rfl ?_
  refine O.nil ?_
  try refine Run.keep [0, 1, 2, 6, 7, 8, 9, 10, 11, 12, 13, 14, 15, 16, 17, 43, 44, 45, 46, 54] rfl rfl ?_
  repeat (first | refine Run.seq ?_ | refine Run.skip ?_ | refine Run.block ?_)
  refine Run.region ?_
  refine O.assign rfl rfl ?_
  refine O.assign rfl rfl ?_
  refine O.nil ?_
  try refine Run.keep [0, 1, 2, 6, 7, 8, 9, 10, 11, 12, 13, 14, 15, 16, 17, 43, 44, 45, 46, 54] rfl rfl ?_
  refine Run.pre (SLe.nilBox (t := 14) (b := 70) (e := 33) (sz := 1) rfl rfl rfl rfl) ?_
  refine Run.pre (SLe.nilBox (t := 15) (b := 61) (e := 33) (sz := 1) rfl rfl rfl rfl) ?_
  repeat (first | refine Run.seq ?_ | refine Run.skip ?_ | refine Run.block ?_)
  refine Run.region ?_
  refine O.move rfl rfl ?_
  first | refine O.lenN hE T27 rfl rfl rfl (by first | exact newest_pv | exact newest_gl rfl rfl | trivial) lenC rfl ?_ | refine O.lenLst hE T27 rfl rfl rfl (by first | exact newest_pv | exact newest_gl rfl rfl | trivial) rfl ?_
  refine O.move rfl rfl ?_
  refine O.nil ?_
  try refine Run.keep [0, 1, 2, 6, 7, 8, 9, 10, 11, 12, 13, 14, 15, 16, 17, 43, 44, 45, 46, 54] rfl rfl ?_
  repeat (first | refine Run.seq ?_ | refine Run.skip ?_)
  refine Run.block ?_
  refine Run.loopInv (ι := Nat) (fun j => j ≤ k) (fun j => ⟨95, [(6, .pv (.bool false)), (8, .pv (.lst 3 (ss.map slE))), (9, .pv (.int .i64 i)), (11, .pv (.int .i64 0)), (12, .ptr 12 0), (13, .pv (.int .i64 0)), (14, .gl 70 (lefts P i j).length), (15, .gl 61 (rights P i j).length), (43, .pv (.lst 1 (((List.range k).map P).map bys))), (44, .pv (.int .i64 ((List.range k).map P).length)), (45, .pv (.int .i64 j))], [(12, .var [.pv (.lst 3 ([s].map slE)), .pv (.lst 1 ((lefts P i k ++ rights P i k).map bys))]), (70, .lst 33 1 ((lefts P i j).map bys)), (61, .lst 33 1 ((rights P i j).map bys))]⟩) (fun j => k - j) 0 (by omega) ?_ ?_
  ·
    refine SLe.eqv (by repeat (first | exact TmIn.nil | refine TmIn.cons rfl ?_)) (by repeat (first | exact BxIn.nil | refine BxIn.cons rfl ?_)) rfl
  rintro j hj ih
  have hlj := lr_len (P := P) (i := i) j
  by_cases hlt : j < k
  ·
    have hat : (((List.range k).map P).map bys)[(j : Int).toNat]? = some (bys (P j)) := by rw [Int.toNat_natCast, List.getElem?_map, List.getElem?_map, List.getElem?_range hlt]; rfl
    have hbit := bit_of (i := i) (j := j) (by omega) (by omega)
    by_cases hb : i / 2 ^ j % 2 = 1
    ·
      have hbt : bitO (i : Int) j = true := by rw [hbit]; exact decide_eq_true hb
      have e1 : lefts P i (j + 1) = P j :: lefts P i j := by rw [lefts, if_pos hb]
      have e2 : rights P i (j + 1) = rights P i j := by rw [rights, if_pos hb]
      repeat (first | refine Run.seq ?_ | refine Run.skip ?_ | refine Run.block ?_)
      refine Run.region ?_
      first | refine O.cmp rfl rfl rfl (by first | exact decide_eq_true (by omega) | exact decide_eq_false (by omega)) rfl ?_ | refine O.cmp rfl rfl rfl rfl rfl ?_
      refine O.nil ?_
      try refine Run.keep [0, 1, 2, 6, 7, 8, 9, 10, 11, 12, 13, 14, 15, 16, 17, 43, 44, 45, 46, 54] rfl rfl ?_
      repeat (first | refine Run.seq ?_ | refine Run.skip ?_)
      first | refine Run.condT rfl rfl ?_ | refine Run.condF rfl rfl ?_ | refine Run.condT rfl (by assumption) ?_ | refine Run.condF rfl (by assumption) ?_
      repeat (first | refine Run.seq ?_ | refine Run.skip ?_ | refine Run.block ?_)
      refine Run.region ?_
      refine O.move rfl rfl ?_
      refine O.index hE T27 rfl T33 rfl rfl newest_pv rfl (by omega) hat rfl rfl rfl ?_
      first | refine O.loadS hE T33 rfl rfl rfl (by rfl) rfl ?_ | refine O.loadE hE T33 rfl rfl (by rfl) rfl ?_ | refine O.load hE T33 rfl rfl rfl rfl ?_
      refine O.assign rfl rfl ?_
      refine O.assign rfl rfl ?_
      refine O.nil ?_
      try refine Run.keep [0, 1, 2, 6, 7, 8, 9, 10, 11, 12, 13, 14, 15, 16, 17, 43, 44, 45, 46, 54] rfl rfl ?_
      repeat (first | refine Run.seq ?_ | refine Run.skip ?_ | refine Run.block ?_)
      refine Run.region ?_
      refine O.move rfl rfl ?_
      refine O.move rfl rfl ?_
      refine O.shr rfl rfl (by first | omega | (exact wrap_nn rfl _)) rfl ?_
      refine O.bit rfl rfl rfl rfl ?_
      refine O.cmp (c' := true) rfl rfl rfl hbt rfl ?_
      refine O.nil ?_
      try refine Run.keep [0, 1, 2, 6, 7, 8, 9, 10, 11, 12, 13, 14, 15, 16, 17, 43, 44, 45, 46, 54] rfl rfl ?_
      repeat (first | refine Run.seq ?_ | refine Run.skip ?_)
      first | refine Run.condT rfl rfl ?_ | refine Run.condF rfl rfl ?_ | refine Run.condT rfl (by assumption) ?_ | refine Run.condF rfl (by assumption) ?_
      repeat (first | refine Run.seq ?_ | refine Run.skip ?_ | refine Run.block ?_)
      refine Run.region ?_
      refine O.move rfl rfl ?_
      refine O.lit hE 71 T27 rfl T33 rfl rfl (xs := [bys (P j)]) rfl rfl rfl rfl rfl rfl ?_
      refine O.move rfl rfl ?_
      refine O.appM bys (q := [P j]) (r := lefts P i j) hE T27 rfl T33 rfl rfl rfl rfl rfl (newest_gl rfl (by simp)) rfl rfl rfl rfl (by simp; omega) (by simp [maxLen]; omega) rfl ?_
      refine O.assign rfl rfl ?_
      refine O.nil ?_
      try refine Run.keep [0, 1, 2, 6, 7, 8, 9, 10, 11, 12, 13, 14, 15, 16, 17, 43, 44, 45, 46, 54] rfl rfl ?_
      repeat (first | refine Run.seq ?_ | refine Run.skip ?_ | refine Run.block ?_)
      refine Run.region ?_
      first | refine O.ar rfl rfl rfl (by exact wrap_i64 (by omega) (by omega)) rfl ?_ | refine O.ar rfl rfl rfl rfl rfl ?_
      refine O.move rfl rfl ?_
      refine O.nil ?_
      try refine Run.keep [0, 1, 2, 6, 7, 8, 9, 10, 11, 12, 13, 14, 15, 16, 17, 43, 44, 45, 46, 54] rfl rfl ?_
      refine ih (j + 1) _ ?_ (by omega) (by omega)
      rw [e1, e2]
      refine SLe.trans (SLe.reown (t := 14) (b := 71) (b' := 70) (tm' := [(6, .pv (.bool false)), (8, .pv (.lst 3 (ss.map slE))), (9, .pv (.int .i64 i)), (11, .pv (.int .i64 0)), (12, .ptr 12 0), (13, .pv (.int .i64 0)), (15, .gl 61 (rights P i j).length), (43, .pv (.lst 1 (((List.range k).map P).map bys))), (44, .pv (.int .i64 ((List.range k).map P).length)), (45, .pv (.int .i64 ((j + 1 : Nat) : Int)))]) (bx' := [(12, .var [.pv (.lst 3 ([s].map slE)), .pv (.lst 1 ((lefts P i k ++ rights P i k).map bys))]), (61, .lst 33 1 ((rights P i j).map bys))]) rfl (by simp) rfl rfl (by repeat (first | exact TmIn.nil | refine TmIn.cons rfl ?_)) (by repeat (first | exact BxIn.nil | refine BxIn.cons rfl ?_)) rfl rfl rfl rfl) ?_
      refine SLe.eqv (by repeat (first | exact TmIn.nil | refine TmIn.cons rfl ?_)) (by repeat (first | exact BxIn.nil | refine BxIn.cons rfl ?_)) rfl
    ·
      have hbt : bitO (i : Int) j = false := by rw [hbit]; exact decide_eq_false hb
      have e1 : lefts P i (j + 1) = lefts P i j := by rw [lefts, if_neg hb]
      have e2 : rights P i (j + 1) = rights P i j ++ [P j] := by rw [rights, if_neg hb]
      repeat (first | refine Run.seq ?_ | refine Run.skip ?_ | refine Run.block ?_)
      refine Run.region ?_
      first | refine O.cmp rfl rfl rfl (by first | exact decide_eq_true (by omega) | exact decide_eq_false (by omega)) rfl ?_ | refine O.cmp rfl rfl rfl rfl rfl ?_
      refine O.nil ?_
      try refine Run.keep [0, 1, 2, 6, 7, 8, 9, 10, 11, 12, 13, 14, 15, 16, 17, 43, 44, 45, 46, 54] rfl rfl ?_
      repeat (first | refine Run.seq ?_ | refine Run.skip ?_)
      first | refine Run.condT rfl rfl ?_ | refine Run.condF rfl rfl ?_ | refine Run.condT rfl (by assumption) ?_ | refine Run.condF rfl (by assumption) ?_
      repeat (first | refine Run.seq ?_ | refine Run.skip ?_ | refine Run.block ?_)
      refine Run.region ?_
      refine O.move rfl rfl ?_
      refine O.index hE T27 rfl T33 rfl rfl newest_pv rfl (by omega) hat rfl rfl rfl ?_
      first | refine O.loadS hE T33 rfl rfl rfl (by rfl) rfl ?_ | refine O.loadE hE T33 rfl rfl (by rfl) rfl ?_ | refine O.load hE T33 rfl rfl rfl rfl ?_
      refine O.assign rfl rfl ?_
      refine O.assign rfl rfl ?_
      refine O.nil ?_
      try refine Run.keep [0, 1, 2, 6, 7, 8, 9, 10, 11, 12, 13, 14, 15, 16, 17, 43, 44, 45, 46, 54] rfl rfl ?_
      repeat (first | refine Run.seq ?_ | refine Run.skip ?_ | refine Run.block ?_)
      refine Run.region ?_
      refine O.move rfl rfl ?_
      refine O.move rfl rfl ?_
      refine O.shr rfl rfl (by first | omega | (exact wrap_nn rfl _)) rfl ?_
      refine O.bit rfl rfl rfl rfl ?_
      refine O.cmp (c' := false) rfl rfl rfl hbt rfl ?_
      refine O.nil ?_
      try refine Run.keep [0, 1, 2, 6, 7, 8, 9, 10, 11, 12, 13, 14, 15, 16, 17, 43, 44, 45, 46, 54] rfl rfl ?_
      repeat (first | refine Run.seq ?_ | refine Run.skip ?_)
      first | refine Run.condT rfl rfl ?_ | refine Run.condF rfl rfl ?_ | refine Run.condT rfl (by assumption) ?_ | refine Run.condF rfl (by assumption) ?_
      repeat (first | refine Run.seq ?_ | refine Run.skip ?_ | refine Run.block ?_)
      refine Run.region ?_
      refine O.move rfl rfl ?_
      refine O.move rfl rfl ?_
      refine O.litV hE T27 rfl T33 rfl rfl rfl rfl rfl rfl rfl ?_
      refine O.appM bys (r := [P j]) hE T27 rfl T33 rfl rfl rfl rfl rfl newest_pv rfl rfl rfl rfl (by simp; omega) (by simp [maxLen]; omega) rfl ?_
      refine O.assign rfl rfl ?_
      refine O.nil ?_
      try refine Run.keep [0, 1, 2, 6, 7, 8, 9, 10, 11, 12, 13, 14, 15, 16, 17, 43, 44, 45, 46, 54] rfl rfl ?_
      repeat (first | refine Run.seq ?_ | refine Run.skip ?_ | refine Run.block ?_)
      refine Run.region ?_
      first | refine O.ar rfl rfl rfl (by exact wrap_i64 (by omega) (by omega)) rfl ?_ | refine O.ar rfl rfl rfl rfl rfl ?_
      refine O.move rfl rfl ?_
      refine O.nil ?_
      try refine Run.keep [0, 1, 2, 6, 7, 8, 9, 10, 11, 12, 13, 14, 15, 16, 17, 43, 44, 45, 46, 54] rfl rfl ?_
      refine ih (j + 1) _ ?_ (by omega) (by omega)
      rw [e1, e2]
      refine SLe.eqv (by repeat (first | exact TmIn.nil | refine TmIn.cons rfl ?_)) (by repeat (first | exact BxIn.nil | refine BxIn.cons rfl ?_)) rfl
  obtain rfl : j = k := by omega
  have m1 : (([s] : List Sl).map slE).length = 1 := rfl
  have hat1 : (([s] : List Sl).map slE)[(0 : Int).toNat]? = some (slE s) := rfl
  repeat (first | refine Run.seq ?_ | refine Run.skip ?_ | refine Run.block ?_)
  refine Run.region ?_
  first | refine O.cmp rfl rfl rfl (by first | exact decide_eq_true (by omega) | exact decide_eq_false (by omega)) rfl ?_ | refine O.cmp rfl rfl rfl rfl rfl ?_
  refine O.nil ?_
  try refine Run.keep [0, 1, 2, 6, 7, 8, 9, 10, 11, 12, 13, 14, 15, 16, 17, 43, 44, 45, 46, 54] rfl rfl ?_
  repeat (first | refine Run.seq ?_ | refine Run.skip ?_)
  first | refine Run.condT rfl rfl ?_ | refine Run.condF rfl rfl ?_ | refine Run.condT rfl (by assumption) ?_ | refine Run.condF rfl (by assumption) ?_
  refine Run.exit ?_
  repeat (first | refine thenR_exit ?_ | refine roundR_exit ?_ | refine blockR_exit ?_ | refine blockR_pass rfl ?_)
  repeat (first | refine Run.seq ?_ | refine Run.skip ?_ | refine Run.block ?_)
  refine Run.draw mixed rfl ?_
  refine D.move rfl rfl ?_
  first | refine D.cmp rfl rfl rfl (by first | exact decide_eq_true (by omega) | exact decide_eq_false (by omega)) rfl ?_ | refine D.cmp rfl rfl rfl rfl rfl ?_
  refine D.move rfl rfl ?_
  first | (refine D.yes rfl rfl (by first | rfl | assumption) ?_; refine D.move rfl rfl ?_) | refine D.no rfl rfl rfl rfl ?_
  first | (refine D.yes rfl rfl (by first | rfl | assumption) ?_; first | refine D.cmp rfl rfl rfl (by first | exact decide_eq_true (by omega) | exact decide_eq_false (by omega)) rfl ?_ | refine D.cmp rfl rfl rfl rfl rfl ?_) | refine D.no rfl rfl rfl rfl ?_
  refine D.pick rfl rfl rfl rfl rfl ?_
  refine D.move rfl rfl ?_
  first | (refine D.yes rfl rfl (by first | rfl | assumption) ?_; refine D.field hE L29 rfl rfl rfl rfl ?_) | refine D.no rfl rfl rfl rfl ?_
  first | (refine D.yes rfl rfl (by first | rfl | assumption) ?_; first | refine D.loadS hE T23 rfl rfl rfl (by rfl) rfl ?_ | refine D.loadE hE T23 rfl rfl (by rfl) rfl ?_ | refine D.load hE T23 rfl rfl rfl rfl ?_) | refine D.no rfl rfl rfl rfl ?_
  first | (refine D.yes rfl rfl (by first | rfl | assumption) ?_; refine D.lenLst hE T23 rfl rfl rfl (by first | exact newest_pv | exact newest_gl rfl rfl | trivial) rfl ?_) | refine D.no rfl rfl rfl rfl ?_
  first | (refine D.yes rfl rfl (by first | rfl | assumption) ?_; first | refine D.cmp rfl rfl rfl (by first | exact decide_eq_true (by omega) | exact decide_eq_false (by omega)) rfl ?_ | refine D.cmp rfl rfl rfl rfl rfl ?_) | refine D.no rfl rfl rfl rfl ?_
  refine D.pick rfl rfl rfl rfl rfl ?_
  refine D.move rfl rfl ?_
  first | (refine D.yes rfl rfl (by first | rfl | assumption) ?_; refine D.field hE L29 rfl rfl rfl rfl ?_) | refine D.no rfl rfl rfl rfl ?_
  first | (refine D.yes rfl rfl (by first | rfl | assumption) ?_; first | refine D.loadS hE T23 rfl rfl rfl (by rfl) rfl ?_ | refine D.loadE hE T23 rfl rfl (by rfl) rfl ?_ | refine D.load hE T23 rfl rfl rfl rfl ?_) | refine D.no rfl rfl rfl rfl ?_
  first | (refine D.yes rfl rfl (by first | rfl | assumption) ?_; refine D.index hE T23 rfl T41 rfl rfl newest_pv rfl (by omega) hat1 rfl rfl rfl ?_) | refine D.no rfl rfl rfl rfl ?_
  first | (refine D.yes rfl rfl (by first | rfl | assumption) ?_; refine D.load hE T41 rfl rfl rfl rfl ?_) | refine D.no rfl rfl rfl rfl ?_
  first | (refine D.yes rfl rfl (by first | rfl | assumption) ?_; refine D.move rfl rfl ?_) | refine D.no rfl rfl rfl rfl ?_
  first | (refine D.yes rfl rfl (by first | rfl | assumption) ?_; refine D.move rfl rfl ?_) | refine D.no rfl rfl rfl rfl ?_
  first | (refine D.yes rfl rfl (by first | rfl | assumption) ?_; refine D.index hE T23 rfl T41 rfl rfl newest_pv rfl (by omega) hat2 rfl rfl rfl ?_) | refine D.no rfl rfl rfl rfl ?_
  first | (refine D.yes rfl rfl (by first | rfl | assumption) ?_; refine D.load hE T41 rfl rfl rfl rfl ?_) | refine D.no rfl rfl rfl rfl ?_
  first | (refine D.yes rfl rfl (by first | rfl | assumption) ?_; refine D.callE c7 rfl (by first | rfl | simp [closed, men3, mens2_app, mens2_ints, mens2, men2, men1, mens1_app, mens1_ints, mens1]) (by first | rfl | simp [d2, ds1_ints, ds1_app, ds1, d1, ds0_app, ds0_ints, ds0, d0]) rfl ?_) | refine D.no rfl rfl rfl rfl ?_
  refine D.pick rfl rfl rfl rfl rfl ?_
  refine D.move rfl rfl ?_
  first | (refine D.yes rfl rfl (by first | rfl | assumption) ?_; refine D.field hE L29 rfl rfl rfl rfl ?_) | refine D.no rfl rfl rfl rfl ?_
  first | (refine D.yes rfl rfl (by first | rfl | assumption) ?_; first | refine D.loadS hE T27 rfl rfl rfl (by rfl) rfl ?_ | refine D.loadE hE T27 rfl rfl (by rfl) rfl ?_ | refine D.load hE T27 rfl rfl rfl rfl ?_) | refine D.no rfl rfl rfl rfl ?_
  first | (refine D.yes rfl rfl (by first | rfl | assumption) ?_; refine D.move rfl rfl ?_) | refine D.no rfl rfl rfl rfl ?_
  first | (refine D.yes rfl rfl (by first | rfl | assumption) ?_; refine D.move rfl rfl ?_) | refine D.no rfl rfl rfl rfl ?_
  first | (refine D.yes rfl rfl (by first | rfl | assumption) ?_; refine D.appM bys (q := lefts P i j) (r := rights P i j) hE T27 rfl T33 rfl rfl rfl rfl rfl (newest_gl rfl (by simp)) rfl rfl rfl rfl (by simp; omega) (by simp [maxLen]; omega) rfl ?_) | refine D.no rfl rfl rfl rfl ?_
  first | (refine D.yes rfl rfl (by first | rfl | assumption) ?_; refine D.callF [(70, .lst 33 1 ((lefts P i j ++ rights P i j).map bys))] c8 rfl (.cons (AVle.of_eq rfl) (.cons (AVle.lst _ _ _ (lstOf_gl rfl (by simp))) .nil)) (by repeat (first | exact BxIn.nil | refine BxIn.cons rfl ?_)) rfl rfl rfl ?_) | refine D.no rfl rfl rfl rfl ?_
  refine D.pick rfl rfl rfl rfl rfl ?_
  refine D.assign rfl rfl ?_
  refine Dr.nil ?_
  refine ⟨rfl, ?_⟩
  try refine Run.keep [0, 1, 2, 6, 7, 8, 9, 10, 11, 12, 13, 14, 15, 16, 17, 43, 44, 45, 46, 54] rfl rfl ?_
  (repeat (first | refine Run.seq ?_ | refine Run.skip ?_)); (try refine Run.ret ?_); first | exact Ends.flat hE (.inr rfl) rfl rfl (AVle.of_eq rfl) rfl | exact Ends.flat hE (.inl rfl) rfl rfl (AVle.of_eq rfl) rfl
end Go.Proofs.YtokjeodlcilfpaaDoor.Vm
