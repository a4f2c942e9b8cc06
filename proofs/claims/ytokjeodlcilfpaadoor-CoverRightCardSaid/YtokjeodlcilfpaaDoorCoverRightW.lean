/- CoverRight: its walk. Conditions: the table of steps has 64 words. -/
import Derived.Test.YtokjeodlcilfpaaDoorCoverD
namespace Go.Proofs.YtokjeodlcilfpaaDoor.Vm
open Go Go.RowKit
set_option linter.unusedVariables false
set_option linter.unusedSimpArgs false
attribute [local irreducible] Ops Dr Run digP covP
variable {g : Nat → Option (List PV)}
/-- The slots that are open. -/
def opn : List Sl → List Bool → List Sl
  | s :: ss, o :: os => if o then s :: opn ss os else opn ss os
  | _, _ => []
def cnt (os : List Bool) : Nat := (os.filter id).length
theorem opn_none : ∀ (ss : List Sl) (os : List Bool), os.any id = false → opn ss os = []
  | [], _, _ => by simp [opn]
  | s :: ss, [], _ => by simp [opn]
  | s :: ss, o :: os, h => by
    simp only [List.any_cons, id, Bool.or_eq_false_iff] at h
    rw [opn, if_neg (by simp [h.1])]
    exact opn_none ss os (by simpa using h.2)
theorem opn_append : ∀ (a b : List Sl) (x y : List Bool), a.length = x.length → opn (a ++ b) (x ++ y) = opn a x ++ opn b y
  | [], b, [], y, _ => by simp [opn]
  | [], b, x :: xs, y, h => by simp at h
  | s :: a, b, [], y, h => by simp at h
  | s :: a, b, o :: x, y, h => by
    simp only [List.length_cons] at h
    simp only [List.cons_append, opn]
    rw [opn_append a b x y (by omega)]
    split <;> simp
theorem opn_get : ∀ (ss : List Sl) (os : List Bool) (i : Nat), ss.length = os.length → os[i]? = some true → (opn ss os)[cnt (os.take i)]? = ss[i]?
  | [], [], i, _, h => by simp at h
  | [], o :: os, i, hl, h => by simp at hl
  | s :: ss, [], i, hl, h => by simp at hl
  | s :: ss, o :: os, 0, hl, h => by
    simp at h
    subst h
    simp [opn, cnt]
  | s :: ss, o :: os, i + 1, hl, h => by
    simp only [List.length_cons] at hl
    have ih := opn_get ss os i (by omega) (by simpa using h)
    cases o with
    | true => simp [opn, cnt] at ih ⊢; exact ih
    | false => simp [opn, cnt] at ih ⊢; exact ih
theorem opn_len : ∀ (ss : List Sl) (os : List Bool), ss.length = os.length → (opn ss os).length = cnt os
  | [], [], _ => by simp [opn, cnt]
  | [], o :: os, hl => by simp at hl
  | s :: ss, [], hl => by simp at hl
  | s :: ss, o :: os, hl => by
    simp only [List.length_cons] at hl
    have ih := opn_len ss os (by omega)
    cases o with
    | true => simp [opn, cnt] at ih ⊢; exact ih
    | false => simp [opn, cnt] at ih ⊢; exact ih
theorem cnt_step {os : List Bool} {i : Nat} {b : Bool} (h : os[i]? = some b) : cnt (os.take (i + 1)) = cnt (os.take i) + (if b then 1 else 0) := by
  unfold cnt
  rw [List.take_add_one, h, Option.toList_some, List.filter_append, List.length_append]
  cases b <;> rfl
theorem cnt_le {os : List Bool} {i : Nat} : cnt (os.take i) ≤ os.length := by
  unfold cnt
  have h1 := List.length_filter_le (fun x : Bool => id x) (os.take i)
  rw [List.length_take] at h1
  exact Nat.le_trans h1 (Nat.min_le_right _ _)
theorem cnt_lt {os : List Bool} {i : Nat} (h : os[i]? = some true) : cnt (os.take i) < cnt os := by
  have h1 := cnt_step h
  have h2 : cnt (os.take (i + 1)) ≤ cnt os := by
    unfold cnt
    exact List.Sublist.length_le (List.Sublist.filter _ (List.take_sublist _ _))
  simp at h1
  omega
theorem covP_open {D : Int → List (List Int) → List Int} : ∀ (k : Nat) (ss : List Sl) (os : List Bool), ss.length = 2 ^ k → os.length = 2 ^ k → (covP D k ss os).1 = opn ss os
  | 0, ss, os, hl, ho => by
    rw [covP_zero]
    match ss, os, hl, ho with
    | [s], [o], _, _ => cases o <;> rfl
  | k + 1, ss, os, hl, ho => by
    have hp2 : 2 ^ (k + 1) = 2 * 2 ^ k := by rw [Nat.pow_succ]; omega
    rw [covP_succ]
    split
    · simp only
      rw [covP_open k _ _ (by rw [List.length_take]; omega) (by rw [List.length_take]; omega), covP_open k _ _ (by rw [List.length_drop]; omega) (by rw [List.length_drop]; omega), ← opn_append _ _ _ _ (by rw [List.length_take, List.length_take]; omega), List.take_append_drop, List.take_append_drop]
    · rename_i h
      rw [opn_none ss os (by simpa using h)]
theorem fnCoverRight {T : List Int → List Int → List Int} (hT : Feeds g T) {rs : List Rw} (n0 w0 : Int) (hl : (rs.length : Int) ≤ 9223372036854775807) : FnC (En Tryd.prog g) 5 [.pv (.int .i64 n0), .pv (.lst 4 (rs.map rawE)), .pv (.int .i64 w0)] (.pv (.bool true)) [] := by
  have hE := EnOk g
  have c1 := fnModeOf (g := g) n0
  have hm := mode_ok n0
  generalize 1 + n0 % 2 = mode at *
  obtain ⟨k, ss, hk, hss, hsok, c2⟩ := slotsOf_ex (g := g) (rs := rs) hl
  have h16 : 2 ^ k ≤ 16 := Nat.pow_le_pow_right (n := 2) (j := 4) (by decide) (by omega)
  have c3 := fnOpens (g := g) (ss := ss) w0 (by omega)
  have hol : ((List.range ss.length).map (bitO w0)).length = ss.length := by simp
  generalize (List.range ss.length).map (bitO w0) = os at *
  have c4 := fnRootQ hT hm hk hss hsok
  have c5 := fnCoverOf hT hm hk hss hol hsok
  have c6 := fnRooted hT hm (os := os) hk hss (by omega) hsok
  have hC := covP_open (D := digP T mode) k ss os hss (by omega)
  have hQ : 0 < (rootQ (digP T mode) k ss).length := by
    have hR := tree_ok hT hm (k := k) (by omega) (r := ss.map (leafP (digP T mode))) (by simp [hss]) (fun p hp => by obtain ⟨s, hs, rfl⟩ := List.mem_map.1 hp; exact leaf_len (hsok s hs)) (fun p hp => by obtain ⟨s, hs, rfl⟩ := List.mem_map.1 hp; exact digP_pos _ _)
    have hlast := hR.len k (Nat.le_refl _)
    rw [Nat.sub_self] at hlast
    unfold rootQ
    refine hR.pos k (Nat.le_refl _) _ ?_
    rw [List.getD_eq_getElem?_getD, List.getElem?_eq_getElem (by rw [hlast]; decide)]
    exact List.getElem_mem _
  generalize covP (digP T mode) k ss os = C at *
  obtain ⟨Oq, Rr⟩ := C
  dsimp only at hC c5 c6
  generalize rootQ (digP T mode) k ss = Q at *
  have hOl : Oq.length = cnt os := by rw [hC]; exact opn_len ss os hol.symm
  have hOm : (Oq.map slE).length = Oq.length := by simp
  have hsm : (ss.map slE).length = ss.length := by simp
  have hom : (os.map PV.bool).length = os.length := by simp
  have hQm : (Q.map (PV.int .u8)).length = Q.length := by simp
  have hcle : cnt os ≤ os.length := by have := cnt_le (os := os) (i := os.length); rwa [List.take_length] at this
  have hstr : ((strOfNums Q).toList == (strOfNums Q).toList) = true := beq_self_eq_true _
  refine FnC.of Tryd.func5 rfl rfl rfl rfl ?_
  repeat (first | refine Run.seq ?_ | refine Run.skip ?_ | refine Run.block ?_)
  refine Run.region ?_
  refine O.assign rfl rfl ?_
  refine O.nil ?_
  try refine Run.keep [0, 1, 2, 6, 7, 8, 9, 10, 11, 12, 13, 14, 15, 16, 17, 46, 47, 48, 53, 71] rfl rfl ?_
  repeat (first | refine Run.seq ?_ | refine Run.skip ?_ | refine Run.block ?_)
  refine Run.region ?_
  refine O.move rfl rfl ?_
  refine O.callE c1 rfl (by first | rfl | simp [closed, men3, mens2_app, mens2_ints, mens2, men2, men1, mens1_app, mens1_ints, mens1]) (by first | rfl | simp [d2, ds1_ints, ds1_app, ds1, d1, ds0_app, ds0_ints, ds0, d0]) rfl ?_
  refine O.move rfl rfl ?_
  refine O.callE c2 rfl (by first | rfl | simp [closed, men3, mens2_app, mens2_ints, mens2, men2, men1, mens1_app, mens1_ints, mens1]) (by first | rfl | simp [d2, ds1_ints, ds1_app, ds1, d1, ds0_app, ds0_ints, ds0, d0]) rfl ?_
  refine O.assign rfl rfl ?_
  refine O.assign rfl rfl ?_
  refine O.nil ?_
  try refine Run.keep [0, 1, 2, 6, 7, 8, 9, 10, 11, 12, 13, 14, 15, 16, 17, 46, 47, 48, 53, 71] rfl rfl ?_
  repeat (first | refine Run.seq ?_ | refine Run.skip ?_ | refine Run.block ?_)
  refine Run.region ?_
  refine O.move rfl rfl ?_
  refine O.move rfl rfl ?_
  refine O.callE c3 rfl (by first | rfl | simp [closed, men3, mens2_app, mens2_ints, mens2, men2, men1, mens1_app, mens1_ints, mens1]) (by first | rfl | simp [d2, ds1_ints, ds1_app, ds1, d1, ds0_app, ds0_ints, ds0, d0]) rfl ?_
  refine O.assign rfl rfl ?_
  refine O.nil ?_
  try refine Run.keep [0, 1, 2, 6, 7, 8, 9, 10, 11, 12, 13, 14, 15, 16, 17, 46, 47, 48, 53, 71] rfl rfl ?_
  repeat (first | refine Run.seq ?_ | refine Run.skip ?_ | refine Run.block ?_)
  refine Run.region ?_
  refine O.move rfl rfl ?_
  refine O.move rfl rfl ?_
  refine O.callE c4 rfl (by first | rfl | simp [closed, men3, mens2_app, mens2_ints, mens2, men2, men1, mens1_app, mens1_ints, mens1]) (by first | rfl | simp [d2, ds1_ints, ds1_app, ds1, d1, ds0_app, ds0_ints, ds0, d0]) rfl ?_
  refine O.move rfl rfl ?_
  refine O.extract rfl rfl rfl ?_
  refine O.extract rfl rfl rfl ?_
  refine O.assign rfl rfl ?_
  refine O.assign rfl rfl ?_
  refine O.nil ?_
  try refine Run.keep [0, 1, 2, 6, 7, 8, 9, 10, 11, 12, 13, 14, 15, 16, 17, 46, 47, 48, 53, 71] rfl rfl ?_
  repeat (first | refine Run.seq ?_ | refine Run.skip ?_ | refine Run.block ?_)
  refine Run.region ?_
  refine O.move rfl rfl ?_
  refine O.move rfl rfl ?_
  refine O.move rfl rfl ?_
  refine O.callE c5 rfl (by first | rfl | simp [closed, men3, mens2_app, mens2_ints, mens2, men2, men1, mens1_app, mens1_ints, mens1]) (by first | rfl | simp [d2, ds1_ints, ds1_app, ds1, d1, ds0_app, ds0_ints, ds0, d0]) rfl ?_
  refine O.move rfl rfl ?_
  refine O.extract rfl rfl rfl ?_
  refine O.extract rfl rfl rfl ?_
  refine O.alloc hE 12 T29 rfl rfl rfl ?_
  refine O.store hE T29 rfl rfl rfl rfl rfl rfl ?_
  refine O.assign rfl rfl ?_
  refine O.nil ?_
  try refine Run.keep [0, 1, 2, 6, 7, 8, 9, 10, 11, 12, 13, 14, 15, 16, 17, 46, 47, 48, 53, 71] rfl rfl ?_
  repeat (first | refine Run.seq ?_ | refine Run.skip ?_ | refine Run.block ?_)
  refine Run.region ?_
  refine O.move rfl rfl ?_
  refine O.move rfl rfl ?_
  refine O.load hE T29 rfl rfl rfl rfl ?_
  refine O.callE c6 rfl (by first | rfl | simp [closed, men3, mens2_app, mens2_ints, mens2, men2, men1, mens1_app, mens1_ints, mens1]) (by first | rfl | simp [d2, ds1_ints, ds1_app, ds1, d1, ds0_app, ds0_ints, ds0, d0]) rfl ?_
  refine O.move rfl rfl ?_
  refine O.extract rfl rfl rfl ?_
  refine O.extract rfl rfl rfl ?_
  refine O.assign rfl rfl ?_
  refine O.assign rfl rfl ?_
  refine O.nil ?_
  try refine Run.keep [0, 1, 2, 6, 7, 8, 9, 10, 11, 12, 13, 14, 15, 16, 17, 46, 47, 48, 53, 71] rfl rfl ?_
  repeat (first | refine Run.seq ?_ | refine Run.skip ?_ | refine Run.block ?_)
  refine Run.region ?_
  refine O.assign rfl rfl ?_
  refine O.nil ?_
  try refine Run.keep [0, 1, 2, 6, 7, 8, 9, 10, 11, 12, 13, 14, 15, 16, 17, 46, 47, 48, 53, 71] rfl rfl ?_
  repeat (first | refine Run.seq ?_ | refine Run.skip ?_ | refine Run.block ?_)
  refine Run.region ?_
  refine O.move rfl rfl ?_
  first | refine O.lenN hE T23 rfl rfl rfl (by first | exact newest_pv | exact newest_gl rfl rfl | trivial) lenC rfl ?_ | refine O.lenLst hE T23 rfl rfl rfl (by first | exact newest_pv | exact newest_gl rfl rfl | trivial) rfl ?_
  refine O.move rfl rfl ?_
  refine O.nil ?_
  try refine Run.keep [0, 1, 2, 6, 7, 8, 9, 10, 11, 12, 13, 14, 15, 16, 17, 46, 47, 48, 53, 71] rfl rfl ?_
  repeat (first | refine Run.seq ?_ | refine Run.skip ?_)
  refine Run.block ?_
  refine Run.loopInv (ι := Nat) (fun i => i ≤ ss.length) (fun i => ⟨104, [(6, .pv (.bool false)), (8, .pv (.lst 3 (ss.map slE))), (9, .pv (.lst 1 (os.map PV.bool))), (10, .pv (bys Q)), (11, .pv (.int .i64 0)), (12, .ptr 12 0), (13, .pv (.int .i64 0)), (14, .pv (bys Q)), (15, .pv (.int .i64 0)), (16, .pv (.int .i64 (cnt (os.take i)))), (46, .pv (.int .i64 ss.length)), (47, .pv (.int .i64 i))], [(12, .var [.pv (.lst 3 (Oq.map slE)), .pv (.lst 1 (Rr.map bys))])]⟩) (fun i => ss.length - i) 0 (by omega) ?_ ?_
  ·
    refine SLe.eqv (by repeat (first | exact TmIn.nil | refine TmIn.cons rfl ?_)) (by repeat (first | exact BxIn.nil | refine BxIn.cons rfl ?_)) rfl
  rintro i hi ih
  by_cases hlt : i < ss.length
  ·
    obtain ⟨b, hb⟩ : ∃ b, os[i]? = some b := ⟨_, List.getElem?_eq_getElem (by omega)⟩
    have hat : (os.map PV.bool)[(i : Int).toNat]? = some (.bool b) := by rw [Int.toNat_natCast, List.getElem?_map, hb]; rfl
    have hst := cnt_step hb
    have hcl := cnt_le (os := os) (i := i)
    cases b with
    | false =>
      have hst : cnt (os.take (i + 1)) = cnt (os.take i) := by simpa using hst
      repeat (first | refine Run.seq ?_ | refine Run.skip ?_ | refine Run.block ?_)
      refine Run.region ?_
      first | refine O.cmp rfl rfl rfl (by first | exact decide_eq_true (by omega) | exact decide_eq_false (by omega)) rfl ?_ | refine O.cmp rfl rfl rfl rfl rfl ?_
      refine O.nil ?_
      try refine Run.keep [0, 1, 2, 6, 7, 8, 9, 10, 11, 12, 13, 14, 15, 16, 17, 46, 47, 48, 53, 71] rfl rfl ?_
      repeat (first | refine Run.seq ?_ | refine Run.skip ?_)
      first | refine Run.condT rfl rfl ?_ | refine Run.condF rfl rfl ?_ | refine Run.condT rfl (by assumption) ?_ | refine Run.condF rfl (by assumption) ?_
      repeat (first | refine Run.seq ?_ | refine Run.skip ?_ | refine Run.block ?_)
      refine Run.region ?_
      refine O.move rfl rfl ?_
      refine O.assign rfl rfl ?_
      refine O.nil ?_
      try refine Run.keep [0, 1, 2, 6, 7, 8, 9, 10, 11, 12, 13, 14, 15, 16, 17, 46, 47, 48, 53, 71] rfl rfl ?_
      repeat (first | refine Run.seq ?_ | refine Run.skip ?_ | refine Run.block ?_)
      refine Run.region ?_
      refine O.move rfl rfl ?_
      refine O.move rfl rfl ?_
      refine O.index hE T25 rfl T4 rfl rfl newest_pv rfl (by omega) hat rfl rfl rfl ?_
      first | refine O.loadS hE T4 rfl rfl rfl (by rfl) rfl ?_ | refine O.loadE hE T4 rfl rfl (by rfl) rfl ?_ | refine O.load hE T4 rfl rfl rfl rfl ?_
      refine O.nil ?_
      try refine Run.keep [0, 1, 2, 6, 7, 8, 9, 10, 11, 12, 13, 14, 15, 16, 17, 46, 47, 48, 53, 71] rfl rfl ?_
      repeat (first | refine Run.seq ?_ | refine Run.skip ?_)
      first | refine Run.condT rfl rfl ?_ | refine Run.condF rfl rfl ?_ | refine Run.condT rfl (by assumption) ?_ | refine Run.condF rfl (by assumption) ?_
      repeat (first | refine Run.seq ?_ | refine Run.skip ?_ | refine Run.block ?_)
      refine Run.region ?_
      first | refine O.ar rfl rfl rfl (by exact wrap_i64 (by omega) (by omega)) rfl ?_ | refine O.ar rfl rfl rfl rfl rfl ?_
      refine O.move rfl rfl ?_
      refine O.nil ?_
      try refine Run.keep [0, 1, 2, 6, 7, 8, 9, 10, 11, 12, 13, 14, 15, 16, 17, 46, 47, 48, 53, 71] rfl rfl ?_
      refine ih (i + 1) _ ?_ (by omega) (by omega)
      rw [hst]
      refine SLe.eqv (by repeat (first | exact TmIn.nil | refine TmIn.cons rfl ?_)) (by repeat (first | exact BxIn.nil | refine BxIn.cons rfl ?_)) rfl
    | true =>
      have hst : cnt (os.take (i + 1)) = cnt (os.take i) + 1 := by simpa using hst
      have hclt := cnt_lt hb
      obtain ⟨s, hsi⟩ : ∃ s, ss[i]? = some s := ⟨_, List.getElem?_eq_getElem hlt⟩
      have hg := opn_get ss os i hol.symm hb
      rw [← hC, hsi] at hg
      have hat1 : (Oq.map slE)[((cnt (os.take i) : Nat) : Int).toNat]? = some (slE s) := by rw [Int.toNat_natCast, List.getElem?_map, hg]; rfl
      have hat2 : (ss.map slE)[(i : Int).toNat]? = some (slE s) := by rw [Int.toNat_natCast, List.getElem?_map, hsi]; rfl
      have cs := fnSameSlot (g := g) s
      generalize cnt (os.take i) = m at *
      repeat (first | refine Run.seq ?_ | refine Run.skip ?_ | refine Run.block ?_)
      refine Run.region ?_
      first | refine O.cmp rfl rfl rfl (by first | exact decide_eq_true (by omega) | exact decide_eq_false (by omega)) rfl ?_ | refine O.cmp rfl rfl rfl rfl rfl ?_
      refine O.nil ?_
      try refine Run.keep [0, 1, 2, 6, 7, 8, 9, 10, 11, 12, 13, 14, 15, 16, 17, 46, 47, 48, 53, 71] rfl rfl ?_
      repeat (first | refine Run.seq ?_ | refine Run.skip ?_)
      first | refine Run.condT rfl rfl ?_ | refine Run.condF rfl rfl ?_ | refine Run.condT rfl (by assumption) ?_ | refine Run.condF rfl (by assumption) ?_
      repeat (first | refine Run.seq ?_ | refine Run.skip ?_ | refine Run.block ?_)
      refine Run.region ?_
      refine O.move rfl rfl ?_
      refine O.assign rfl rfl ?_
      refine O.nil ?_
      try refine Run.keep [0, 1, 2, 6, 7, 8, 9, 10, 11, 12, 13, 14, 15, 16, 17, 46, 47, 48, 53, 71] rfl rfl ?_
      repeat (first | refine Run.seq ?_ | refine Run.skip ?_ | refine Run.block ?_)
      refine Run.region ?_
      refine O.move rfl rfl ?_
      refine O.move rfl rfl ?_
      refine O.index hE T25 rfl T4 rfl rfl newest_pv rfl (by omega) hat rfl rfl rfl ?_
      first | refine O.loadS hE T4 rfl rfl rfl (by rfl) rfl ?_ | refine O.loadE hE T4 rfl rfl (by rfl) rfl ?_ | refine O.load hE T4 rfl rfl rfl rfl ?_
      refine O.nil ?_
      try refine Run.keep [0, 1, 2, 6, 7, 8, 9, 10, 11, 12, 13, 14, 15, 16, 17, 46, 47, 48, 53, 71] rfl rfl ?_
      repeat (first | refine Run.seq ?_ | refine Run.skip ?_)
      first | refine Run.condT rfl rfl ?_ | refine Run.condF rfl rfl ?_ | refine Run.condT rfl (by assumption) ?_ | refine Run.condF rfl (by assumption) ?_
      repeat (first | refine Run.seq ?_ | refine Run.skip ?_ | refine Run.block ?_)
      refine Run.draw mixed rfl ?_
      refine D.move rfl rfl ?_
      refine D.field hE L29 rfl rfl rfl rfl ?_
      first | refine D.loadS hE T23 rfl rfl rfl (by rfl) rfl ?_ | refine D.loadE hE T23 rfl rfl (by rfl) rfl ?_ | refine D.load hE T23 rfl rfl rfl rfl ?_
      refine D.lenLst hE T23 rfl rfl rfl (by first | exact newest_pv | exact newest_gl rfl rfl | trivial) rfl ?_
      refine D.cmp rfl rfl rfl (decide_eq_false (show ¬ ((Oq.map slE).length : Int) ≤ (m : Int) by omega)) rfl ?_
      refine D.move rfl rfl ?_
      first | (refine D.yes rfl rfl (by first | rfl | assumption) ?_; refine D.field hE L29 rfl rfl rfl rfl ?_) | refine D.no rfl rfl rfl rfl ?_
      first | (refine D.yes rfl rfl (by first | rfl | assumption) ?_; first | refine D.loadS hE T23 rfl rfl rfl (by rfl) rfl ?_ | refine D.loadE hE T23 rfl rfl (by rfl) rfl ?_ | refine D.load hE T23 rfl rfl rfl rfl ?_) | refine D.no rfl rfl rfl rfl ?_
      first | (refine D.yes rfl rfl (by first | rfl | assumption) ?_; refine D.move rfl rfl ?_) | refine D.no rfl rfl rfl rfl ?_
      first | (refine D.yes rfl rfl (by first | rfl | assumption) ?_; refine D.index hE T23 rfl T41 rfl rfl newest_pv rfl (by omega) hat1 rfl rfl rfl ?_) | refine D.no rfl rfl rfl rfl ?_
      first | (refine D.yes rfl rfl (by first | rfl | assumption) ?_; refine D.load hE T41 rfl rfl rfl rfl ?_) | refine D.no rfl rfl rfl rfl ?_
      first | (refine D.yes rfl rfl (by first | rfl | assumption) ?_; refine D.move rfl rfl ?_) | refine D.no rfl rfl rfl rfl ?_
      first | (refine D.yes rfl rfl (by first | rfl | assumption) ?_; refine D.move rfl rfl ?_) | refine D.no rfl rfl rfl rfl ?_
      first | (refine D.yes rfl rfl (by first | rfl | assumption) ?_; refine D.index hE T23 rfl T41 rfl rfl newest_pv rfl (by omega) hat2 rfl rfl rfl ?_) | refine D.no rfl rfl rfl rfl ?_
      first | (refine D.yes rfl rfl (by first | rfl | assumption) ?_; refine D.load hE T41 rfl rfl rfl rfl ?_) | refine D.no rfl rfl rfl rfl ?_
      first | (refine D.yes rfl rfl (by first | rfl | assumption) ?_; refine D.callE cs rfl (by first | rfl | simp [closed, men3, mens2_app, mens2_ints, mens2, men2, men1, mens1_app, mens1_ints, mens1]) (by first | rfl | simp [d2, ds1_ints, ds1_app, ds1, d1, ds0_app, ds0_ints, ds0, d0]) rfl ?_) | refine D.no rfl rfl rfl rfl ?_
      first | (refine D.yes rfl rfl (by first | rfl | assumption) ?_; refine D.un rfl rfl rfl rfl rfl ?_) | refine D.no rfl rfl rfl rfl ?_
      refine D.pick rfl rfl rfl rfl rfl ?_
      refine Dr.nil ?_
      refine ⟨rfl, ?_⟩
      try refine Run.keep [0, 1, 2, 6, 7, 8, 9, 10, 11, 12, 13, 14, 15, 16, 17, 46, 47, 48, 53, 71] rfl rfl ?_
      repeat (first | refine Run.seq ?_ | refine Run.skip ?_)
      first | refine Run.condT rfl rfl ?_ | refine Run.condF rfl rfl ?_ | refine Run.condT rfl (by assumption) ?_ | refine Run.condF rfl (by assumption) ?_
      repeat (first | refine Run.seq ?_ | refine Run.skip ?_ | refine Run.block ?_)
      refine Run.region ?_
      refine O.move rfl rfl ?_
      first | refine O.ar rfl rfl rfl (by exact wrap_i64 (by omega) (by omega)) rfl ?_ | refine O.ar rfl rfl rfl rfl rfl ?_
      refine O.assign rfl rfl ?_
      refine O.nil ?_
      try refine Run.keep [0, 1, 2, 6, 7, 8, 9, 10, 11, 12, 13, 14, 15, 16, 17, 46, 47, 48, 53, 71] rfl rfl ?_
      repeat (first | refine Run.seq ?_ | refine Run.skip ?_ | refine Run.block ?_)
      refine Run.region ?_
      first | refine O.ar rfl rfl rfl (by exact wrap_i64 (by omega) (by omega)) rfl ?_ | refine O.ar rfl rfl rfl rfl rfl ?_
      refine O.move rfl rfl ?_
      refine O.nil ?_
      try refine Run.keep [0, 1, 2, 6, 7, 8, 9, 10, 11, 12, 13, 14, 15, 16, 17, 46, 47, 48, 53, 71] rfl rfl ?_
      refine ih (i + 1) _ ?_ (by omega) (by omega)
      rw [hst]
      refine SLe.eqv (by repeat (first | exact TmIn.nil | refine TmIn.cons rfl ?_)) (by repeat (first | exact BxIn.nil | refine BxIn.cons rfl ?_)) rfl
  have hi' : i = ss.length := by omega
  have hcn : cnt (os.take i) = Oq.length := by rw [hi', ← hol, List.take_length, hOl]
  rw [hcn]
  repeat (first | refine Run.seq ?_ | refine Run.skip ?_ | refine Run.block ?_)
  refine Run.region ?_
  first | refine O.cmp rfl rfl rfl (by first | exact decide_eq_true (by omega) | exact decide_eq_false (by omega)) rfl ?_ | refine O.cmp rfl rfl rfl rfl rfl ?_
  refine O.nil ?_
  try refine Run.keep [0, 1, 2, 6, 7, 8, 9, 10, 11, 12, 13, 14, 15, 16, 17, 46, 47, 48, 53, 71] rfl rfl ?_
  repeat (first | refine Run.seq ?_ | refine Run.skip ?_)
  first | refine Run.condT rfl rfl ?_ | refine Run.condF rfl rfl ?_ | refine Run.condT rfl (by assumption) ?_ | refine Run.condF rfl (by assumption) ?_
  refine Run.exit ?_
  repeat (first | refine thenR_exit ?_ | refine roundR_exit ?_ | refine blockR_exit ?_ | refine blockR_pass rfl ?_)
  repeat (first | refine Run.seq ?_ | refine Run.skip ?_ | refine Run.block ?_)
  refine Run.region ?_
  refine O.move rfl rfl ?_
  first | refine O.cmp rfl rfl rfl (by first | exact decide_eq_true (by omega) | exact decide_eq_false (by omega)) rfl ?_ | refine O.cmp rfl rfl rfl rfl rfl ?_
  refine O.move rfl rfl ?_
  first | (refine O.yes rfl rfl (by first | rfl | assumption) ?_; refine O.move rfl rfl ?_) | refine O.no rfl rfl rfl rfl ?_
  first | (refine O.yes rfl rfl (by first | rfl | assumption) ?_; first | refine O.cmp rfl rfl rfl (by first | exact decide_eq_true (by omega) | exact decide_eq_false (by omega)) rfl ?_ | refine O.cmp rfl rfl rfl rfl rfl ?_) | refine O.no rfl rfl rfl rfl ?_
  refine O.pick rfl rfl rfl rfl rfl ?_
  refine O.move rfl rfl ?_
  first | (refine O.yes rfl rfl (by first | rfl | assumption) ?_; refine O.move rfl rfl ?_) | refine O.no rfl rfl rfl rfl ?_
  first | (refine O.yes rfl rfl (by first | rfl | assumption) ?_; first | refine O.cmp rfl rfl rfl (by first | exact decide_eq_true (by omega) | exact decide_eq_false (by omega)) rfl ?_ | refine O.cmp rfl rfl rfl rfl rfl ?_) | refine O.no rfl rfl rfl rfl ?_
  refine O.pick rfl rfl rfl rfl rfl ?_
  refine O.move rfl rfl ?_
  first | (refine O.yes rfl rfl (by first | rfl | assumption) ?_; refine O.move rfl rfl ?_) | refine O.no rfl rfl rfl rfl ?_
  first | (refine O.yes rfl rfl (by first | rfl | assumption) ?_; first | refine O.lenN hE T33 rfl rfl rfl (by first | exact newest_pv | exact newest_gl rfl rfl | trivial) lenC rfl ?_ | refine O.lenLst hE T33 rfl rfl rfl (by first | exact newest_pv | exact newest_gl rfl rfl | trivial) rfl ?_) | refine O.no rfl rfl rfl rfl ?_
  first | (refine O.yes rfl rfl (by first | rfl | assumption) ?_; first | refine O.cmp rfl rfl rfl (by first | exact decide_eq_true (by omega) | exact decide_eq_false (by omega)) rfl ?_ | refine O.cmp rfl rfl rfl rfl rfl ?_) | refine O.no rfl rfl rfl rfl ?_
  refine O.pick rfl rfl rfl rfl rfl ?_
  refine O.move rfl rfl ?_
  first | (refine O.yes rfl rfl (by first | rfl | assumption) ?_; refine O.move rfl rfl ?_) | refine O.no rfl rfl rfl rfl ?_
  first | (refine O.yes rfl rfl (by first | rfl | assumption) ?_; refine O.field hE L29 rfl rfl rfl rfl ?_) | refine O.no rfl rfl rfl rfl ?_
  first | (refine O.yes rfl rfl (by first | rfl | assumption) ?_; first | refine O.loadS hE T23 rfl rfl rfl (by rfl) rfl ?_ | refine O.loadE hE T23 rfl rfl (by rfl) rfl ?_ | refine O.load hE T23 rfl rfl rfl rfl ?_) | refine O.no rfl rfl rfl rfl ?_
  first | (refine O.yes rfl rfl (by first | rfl | assumption) ?_; first | refine O.lenN hE T23 rfl rfl rfl (by first | exact newest_pv | exact newest_gl rfl rfl | trivial) lenC rfl ?_ | refine O.lenLst hE T23 rfl rfl rfl (by first | exact newest_pv | exact newest_gl rfl rfl | trivial) rfl ?_) | refine O.no rfl rfl rfl rfl ?_
  first | (refine O.yes rfl rfl (by first | rfl | assumption) ?_; first | refine O.cmp rfl rfl rfl (by first | exact decide_eq_true (by omega) | exact decide_eq_false (by omega)) rfl ?_ | refine O.cmp rfl rfl rfl rfl rfl ?_) | refine O.no rfl rfl rfl rfl ?_
  refine O.pick rfl rfl rfl rfl rfl ?_
  refine O.move rfl rfl ?_
  first | (refine O.yes rfl rfl (by first | rfl | assumption) ?_; refine O.move rfl rfl ?_) | refine O.no rfl rfl rfl rfl ?_
  first | (refine O.yes rfl rfl (by first | rfl | assumption) ?_; refine O.str hE T33 rfl T5 rfl T9 rfl rfl rfl newest_pv (nums_bytes _) rfl rfl ?_) | refine O.no rfl rfl rfl rfl ?_
  first | (refine O.yes rfl rfl (by first | rfl | assumption) ?_; refine O.move rfl rfl ?_) | refine O.no rfl rfl rfl rfl ?_
  first | (refine O.yes rfl rfl (by first | rfl | assumption) ?_; refine O.str hE T33 rfl T5 rfl T9 rfl rfl rfl newest_pv (nums_bytes _) rfl rfl ?_) | refine O.no rfl rfl rfl rfl ?_
  first | (refine O.yes rfl rfl (by first | rfl | assumption) ?_; refine O.strEq rfl rfl hstr rfl ?_) | refine O.no rfl rfl rfl rfl ?_
  refine O.pick rfl rfl rfl rfl rfl ?_
  refine O.assign rfl rfl ?_
  refine O.nil ?_
  try refine Run.keep [0, 1, 2, 6, 7, 8, 9, 10, 11, 12, 13, 14, 15, 16, 17, 46, 47, 48, 53, 71] rfl rfl ?_
  (repeat (first | refine Run.seq ?_ | refine Run.skip ?_)); (try refine Run.ret ?_); first | exact Ends.flat hE (.inr rfl) rfl rfl (AVle.of_eq rfl) rfl | exact Ends.flat hE (.inl rfl) rfl rfl (AVle.of_eq rfl) rfl
end Go.Proofs.YtokjeodlcilfpaaDoor.Vm
