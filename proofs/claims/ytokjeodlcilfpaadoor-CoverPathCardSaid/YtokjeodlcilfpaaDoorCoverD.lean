/- Covers: what a cover is built up to: build, Rooted. Conditions: the table of steps has 64 words. -/
import Derived.Test.YtokjeodlcilfpaaDoorCoverC
namespace Go.Proofs.YtokjeodlcilfpaaDoor.Vm
open Go Go.RowKit
set_option linter.unusedVariables false
set_option linter.unusedSimpArgs false
attribute [local irreducible] Ops Dr Run digP
variable {g : Nat → Option (List PV)}
theorem upP_append {D : Int → List (List Int) → List Int} {a b : List (List Int)} {h : Nat} (ha : a.length = 2 * h) : upP D (a ++ b) = upP D a ++ upP D b := by
  apply List.ext_getElem?
  intro i
  have hl : (a ++ b).length / 2 = h + b.length / 2 := by rw [List.length_append, ha]; omega
  have hla : a.length / 2 = h := by omega
  by_cases hi : i < h
  · rw [List.getElem?_append_left (by simp [upP]; omega)]
    simp only [upP, List.getElem?_map]
    rw [List.getElem?_range (by omega), List.getElem?_range (by omega)]
    simp only [Option.map_some, List.getD_eq_getElem?_getD]
    rw [List.getElem?_append_left (by omega), List.getElem?_append_left (by omega)]
  · rw [List.getElem?_append_right (by simp [upP]; omega)]
    simp only [upP, List.getElem?_map, List.length_map, List.length_range, hl, hla]
    by_cases hj : i < h + b.length / 2
    · rw [List.getElem?_range hj, List.getElem?_range (by omega)]
      simp only [Option.map_some, List.getD_eq_getElem?_getD]
      rw [List.getElem?_append_right (by omega), List.getElem?_append_right (by omega), ha, show 2 * i - 2 * h = 2 * (i - h) by omega, show 2 * i + 1 - 2 * h = 2 * (i - h) + 1 by omega]
    · rw [List.getElem?_eq_none (by simp; omega), List.getElem?_eq_none (by simp; omega)]
      rfl
theorem upN_append {D : Int → List (List Int) → List Int} {a b : List (List Int)} {k : Nat} (ha : a.length = 2 ^ k) : ∀ j, j ≤ k → upN D (a ++ b) j = upN D a j ++ upN D b j
  | 0, _ => rfl
  | j + 1, hj => by
    have hl := upN_len (D := D) ha j (by omega)
    rw [upN, upN_append ha j (by omega), upP_append (h := 2 ^ (k - (j + 1))) (by rw [hl, half_pow (by omega)])]
    rfl
/-- The root of a list is the node of its halves' roots. -/
theorem rootQ_two {D : Int → List (List Int) → List Int} {k : Nat} {ss : List Sl} (hl : ss.length = 2 * 2 ^ k) : rootQ D (k + 1) ss = D 2 [rootQ D k (ss.take (2 ^ k)), rootQ D k (ss.drop (2 ^ k))] := by
  unfold rootQ
  have e : ss.map (leafP D) = (ss.take (2 ^ k)).map (leafP D) ++ (ss.drop (2 ^ k)).map (leafP D) := by rw [← List.map_append, List.take_append_drop]
  have ha : ((ss.take (2 ^ k)).map (leafP D)).length = 2 ^ k := by rw [List.length_map, List.length_take]; omega
  have hb : ((ss.drop (2 ^ k)).map (leafP D)).length = 2 ^ k := by rw [List.length_map, List.length_drop]; omega
  have h1 := upN_len (D := D) ha k (Nat.le_refl _)
  have h2 := upN_len (D := D) hb k (Nat.le_refl _)
  rw [Nat.sub_self] at h1 h2
  rw [upN, e, upN_append ha k (Nat.le_refl _)]
  generalize upN D ((ss.take (2 ^ k)).map (leafP D)) k = x at *
  generalize upN D ((ss.drop (2 ^ k)).map (leafP D)) k = y at *
  obtain ⟨u, rfl⟩ : ∃ u, x = [u] := by
    match x, h1 with
    | [u], _ => exact ⟨u, rfl⟩
  obtain ⟨v, rfl⟩ : ∃ v, y = [v] := by
    match y, h2 with
    | [v], _ => exact ⟨v, rfl⟩
  rw [upP_get (by simp)]
  rfl
theorem rootQ_max {T : List Int → List Int → List Int} {mode : Int} {k : Nat} {ss : List Sl} (hk : k ≤ 4) (hs : ∀ s ∈ ss, Sok s) : (rootQ (digP T mode) k ss).length ≤ 100000 := by
  have hb : ∀ p ∈ ss.map (leafP (digP T mode)), (p.length : Int) ≤ 120 := fun p hp => by obtain ⟨s, hs', rfl⟩ := List.mem_map.1 hp; exact leaf_len (hs s hs')
  have h1 := getD_len (upN_max (T := T) (mode := mode) hb k) (by have : (1 : Int) ≤ 2 ^ k := Int.pow_pos (by decide); omega) 0
  have h2 : ((2 ^ k : Nat) : Int) ≤ ((2 ^ 4 : Nat) : Int) := Int.ofNat_le.2 (Nat.pow_le_pow_right (by decide) hk)
  have h3 : ((2 ^ k : Nat) : Int) = 2 ^ k := by simp
  have h4 : ((2 ^ 4 : Nat) : Int) = 16 := by decide
  unfold rootQ
  omega
/-- A cover's box. -/
abbrev rbx (A : List Sl) (B : List (List Int)) : List (Nat × Box) := [(5, .var [.pv (.lst 3 (A.map slE)), .pv (.lst 1 (B.map bys))])]
abbrev lnR : List Nat := [5]
theorem fnBuild {T : List Int → List Int → List Int} (hT : Feeds g T) {mode : Int} (hm : mode = 1 ∨ mode = 2) : ∀ (k : Nat) (ss : List Sl) (os : List Bool) (A : List Sl) (B : List (List Int)), k ≤ 4 → ss.length = 2 ^ k → os.length = 2 ^ k → (∀ s ∈ ss, Sok s) → A.length + 2 ^ k ≤ 1000 → B.length + 2 ^ k ≤ 1000 →
    FnL (EnL Tryd.prog g lnR) 37 [.pv (.int .i64 mode), .pv (.lst 1 (os.map PV.bool)), .ptr 5 0] (rbx ((covP (digP T mode) k ss os).1 ++ A) ((covP (digP T mode) k ss os).2 ++ B)) (.tup [.pv (bys (rootQ (digP T mode) k ss)), .pv (.bool true)]) (rbx A B) := by
  intro k
  induction k with
  | zero =>
    intro ss os A B hk hl hlo hs hA hB
    have hE := EnLOk g lnR
    rw [covP_zero]
    have hmo : (os.map PV.bool).length = os.length := by simp
    have c1 := (fnAny (g := g) os (by rw [hlo]; decide)).lent lnR
    have hlo1 : os.length = 1 := hlo
    cases hany : os.any id with
    | false =>
      rw [hany] at c1
      rw [if_neg (by simp)]
      generalize rootQ (digP T mode) 0 ss = R at *
      have hat : (([R] ++ B).map bys)[(0 : Int).toNat]? = some (bys R) := rfl
      have hys : ((([R] ++ B).map bys).take ((([R] ++ B).map bys).length : Int).toNat).drop (1 : Int).toNat = B.map bys := by rw [Int.toNat_natCast, List.take_length]; rfl
      have hBl : (([R] ++ B).map bys).length = B.length + 1 := by simp
      have hBl2 : ([R] ++ B).length = B.length + 1 := by simp
      refine FnL.of Tryd.func37 rfl rfl rfl rfl ?_
      repeat (first | refine Run.seq ?_ | refine Run.skip ?_ | refine Run.block ?_)
      refine Run.region ?_
      refine O.assign rfl rfl ?_
      refine O.assign rfl rfl ?_
      refine O.nil ?_
      try refine Run.keep [0, 1, 2, 6, 7, 8, 9, 10, 11, 12, 13, 14, 15, 16, 19, 25, 43, 49, 85, 98] rfl rfl ?_
      repeat (first | refine Run.seq ?_ | refine Run.skip ?_ | refine Run.block ?_)
      refine Run.region ?_
      refine O.move rfl rfl ?_
      refine O.callE c1 rfl (by first | rfl | simp [closed, men3, mens2_app, mens2_ints, mens2, men2, men1, mens1_app, mens1_ints, mens1]) (by first | rfl | simp [d2, ds1_ints, ds1_app, ds1, d1, ds0_app, ds0_ints, ds0, d0]) rfl ?_
      refine O.un rfl rfl rfl rfl rfl ?_
      refine O.nil ?_
      try refine Run.keep [0, 1, 2, 6, 7, 8, 9, 10, 11, 12, 13, 14, 15, 16, 19, 25, 43, 49, 85, 98] rfl rfl ?_
      repeat (first | refine Run.seq ?_ | refine Run.skip ?_)
      first | refine Run.condT rfl rfl ?_ | refine Run.condF rfl rfl ?_ | refine Run.condT rfl (by assumption) ?_ | refine Run.condF rfl (by assumption) ?_
      repeat (first | refine Run.seq ?_ | refine Run.skip ?_ | refine Run.block ?_)
      refine Run.region ?_
      refine O.move rfl rfl ?_
      refine O.nilCheck rfl rfl ?_
      refine O.field hE L29 rfl rfl rfl rfl ?_
      first | refine O.loadS hE T27 rfl rfl rfl (by rfl) rfl ?_ | refine O.loadE hE T27 rfl rfl (by rfl) rfl ?_ | refine O.load hE T27 rfl rfl rfl rfl ?_
      first | refine O.lenN hE T27 rfl rfl rfl (by first | exact newest_pv | exact newest_gl rfl rfl | trivial) lenC rfl ?_ | refine O.lenLst hE T27 rfl rfl rfl (by first | exact newest_pv | exact newest_gl rfl rfl | trivial) rfl ?_
      first | refine O.cmp rfl rfl rfl (by first | exact decide_eq_true (by omega) | exact decide_eq_false (by omega)) rfl ?_ | refine O.cmp rfl rfl rfl rfl rfl ?_
      refine O.nil ?_
      try refine Run.keep [0, 1, 2, 6, 7, 8, 9, 10, 11, 12, 13, 14, 15, 16, 19, 25, 43, 49, 85, 98] rfl rfl ?_
      repeat (first | refine Run.seq ?_ | refine Run.skip ?_)
      first | refine Run.condT rfl rfl ?_ | refine Run.condF rfl rfl ?_ | refine Run.condT rfl (by assumption) ?_ | refine Run.condF rfl (by assumption) ?_
      repeat (first | refine Run.seq ?_ | refine Run.skip ?_ | refine Run.block ?_)
      refine Run.region ?_
      refine O.move rfl rfl ?_
      refine O.nilCheck rfl rfl ?_
      refine O.field hE L29 rfl rfl rfl rfl ?_
      first | refine O.loadS hE T27 rfl rfl rfl (by rfl) rfl ?_ | refine O.loadE hE T27 rfl rfl (by rfl) rfl ?_ | refine O.load hE T27 rfl rfl rfl rfl ?_
      refine O.index hE T27 rfl T33 rfl rfl newest_pv rfl (by omega) hat rfl rfl rfl ?_
      first | refine O.loadS hE T33 rfl rfl rfl (by rfl) rfl ?_ | refine O.loadE hE T33 rfl rfl (by rfl) rfl ?_ | refine O.load hE T33 rfl rfl rfl rfl ?_
      refine O.assign rfl rfl ?_
      refine O.nil ?_
      try refine Run.keep [0, 1, 2, 6, 7, 8, 9, 10, 11, 12, 13, 14, 15, 16, 19, 25, 43, 49, 85, 98] rfl rfl ?_
      repeat (first | refine Run.seq ?_ | refine Run.skip ?_ | refine Run.block ?_)
      refine Run.region ?_
      refine O.move rfl rfl ?_
      refine O.move rfl rfl ?_
      refine O.nilCheck rfl rfl ?_
      refine O.field hE L29 rfl rfl rfl rfl ?_
      first | refine O.loadS hE T27 rfl rfl rfl (by rfl) rfl ?_ | refine O.loadE hE T27 rfl rfl (by rfl) rfl ?_ | refine O.load hE T27 rfl rfl rfl rfl ?_
      refine O.slice hE T27 rfl T33 rfl rfl newest_pv rfl rfl rfl (by omega) (by rw [hBl]; omega) (by exact Int.le_refl _) hys rfl ?_
      refine O.nilCheck rfl rfl ?_
      refine O.field hE L29 rfl rfl rfl rfl ?_
      refine O.store hE T27 rfl rfl rfl rfl rfl rfl ?_
      refine O.nil ?_
      try refine Run.keep [0, 1, 2, 6, 7, 8, 9, 10, 11, 12, 13, 14, 15, 16, 19, 25, 43, 49, 85, 98] rfl rfl ?_
      repeat (first | refine Run.seq ?_ | refine Run.skip ?_ | refine Run.block ?_)
      refine Run.region ?_
      refine O.move rfl rfl ?_
      refine O.assign rfl rfl ?_
      refine O.assign rfl rfl ?_
      refine O.nil ?_
      try refine Run.keep [0, 1, 2, 6, 7, 8, 9, 10, 11, 12, 13, 14, 15, 16, 19, 25, 43, 49, 85, 98] rfl rfl ?_
      refine Run.ret ?_
      (try repeat (first | refine thenR_ret ?_ | refine roundR_ret ?_ | refine blockR_ret ?_))
      exact Ends.of hE (.inr rfl) rfl rfl (SLe.drop (by repeat (first | exact TmIn.nil | refine TmIn.cons rfl ?_)) (by repeat (first | exact BxIn.nil | refine BxIn.cons rfl ?_)) rfl rfl)
    | true =>
      rw [hany] at c1
      rw [if_pos rfl]
      obtain ⟨s, rfl⟩ : ∃ s, ss = [s] := by
        match ss, hl with
        | [s], _ => exact ⟨s, rfl⟩
      have hsm := hs s (by simp)
      have cl := (fnLeaf hT hm hsm).lent lnR
      have hr : rootQ (digP T mode) 0 [s] = leafP (digP T mode) s := rfl
      rw [hr]
      generalize leafP (digP T mode) s = R at *
      show FnL _ _ _ (rbx ([s] ++ A) ([] ++ B)) _ _
      have hat : (([s] ++ A).map slE)[(0 : Int).toNat]? = some (slE s) := rfl
      have hys : ((([s] ++ A).map slE).take ((([s] ++ A).map slE).length : Int).toNat).drop (1 : Int).toNat = A.map slE := by rw [Int.toNat_natCast, List.take_length]; rfl
      have hAl : (([s] ++ A).map slE).length = A.length + 1 := by simp
      have hAl2 : ([s] ++ A).length = A.length + 1 := by simp
      refine FnL.of Tryd.func37 rfl rfl rfl rfl ?_
      repeat (first | refine Run.seq ?_ | refine Run.skip ?_ | refine Run.block ?_)
      refine Run.region ?_
      refine O.assign rfl rfl ?_
      refine O.assign rfl rfl ?_
      refine O.nil ?_
      try refine Run.keep [0, 1, 2, 6, 7, 8, 9, 10, 11, 12, 13, 14, 15, 16, 19, 25, 43, 49, 85, 98] rfl rfl ?_
      repeat (first | refine Run.seq ?_ | refine Run.skip ?_ | refine Run.block ?_)
      refine Run.region ?_
      refine O.move rfl rfl ?_
      refine O.callE c1 rfl (by first | rfl | simp [closed, men3, mens2_app, mens2_ints, mens2, men2, men1, mens1_app, mens1_ints, mens1]) (by first | rfl | simp [d2, ds1_ints, ds1_app, ds1, d1, ds0_app, ds0_ints, ds0, d0]) rfl ?_
      refine O.un rfl rfl rfl rfl rfl ?_
      refine O.nil ?_
      try refine Run.keep [0, 1, 2, 6, 7, 8, 9, 10, 11, 12, 13, 14, 15, 16, 19, 25, 43, 49, 85, 98] rfl rfl ?_
      repeat (first | refine Run.seq ?_ | refine Run.skip ?_)
      first | refine Run.condT rfl rfl ?_ | refine Run.condF rfl rfl ?_ | refine Run.condT rfl (by assumption) ?_ | refine Run.condF rfl (by assumption) ?_
      repeat (first | refine Run.seq ?_ | refine Run.skip ?_ | refine Run.block ?_)
      refine Run.region ?_
      refine O.move rfl rfl ?_
      first | refine O.lenN hE T25 rfl rfl rfl (by first | exact newest_pv | exact newest_gl rfl rfl | trivial) lenC rfl ?_ | refine O.lenLst hE T25 rfl rfl rfl (by first | exact newest_pv | exact newest_gl rfl rfl | trivial) rfl ?_
      first | refine O.cmp rfl rfl rfl (by first | exact decide_eq_true (by omega) | exact decide_eq_false (by omega)) rfl ?_ | refine O.cmp rfl rfl rfl rfl rfl ?_
      refine O.nil ?_
      try refine Run.keep [0, 1, 2, 6, 7, 8, 9, 10, 11, 12, 13, 14, 15, 16, 19, 25, 43, 49, 85, 98] rfl rfl ?_
      repeat (first | refine Run.seq ?_ | refine Run.skip ?_)
      first | refine Run.condT rfl rfl ?_ | refine Run.condF rfl rfl ?_ | refine Run.condT rfl (by assumption) ?_ | refine Run.condF rfl (by assumption) ?_
      repeat (first | refine Run.seq ?_ | refine Run.skip ?_ | refine Run.block ?_)
      refine Run.region ?_
      refine O.move rfl rfl ?_
      refine O.nilCheck rfl rfl ?_
      refine O.field hE L29 rfl rfl rfl rfl ?_
      first | refine O.loadS hE T23 rfl rfl rfl (by rfl) rfl ?_ | refine O.loadE hE T23 rfl rfl (by rfl) rfl ?_ | refine O.load hE T23 rfl rfl rfl rfl ?_
      first | refine O.lenN hE T23 rfl rfl rfl (by first | exact newest_pv | exact newest_gl rfl rfl | trivial) lenC rfl ?_ | refine O.lenLst hE T23 rfl rfl rfl (by first | exact newest_pv | exact newest_gl rfl rfl | trivial) rfl ?_
      first | refine O.cmp rfl rfl rfl (by first | exact decide_eq_true (by omega) | exact decide_eq_false (by omega)) rfl ?_ | refine O.cmp rfl rfl rfl rfl rfl ?_
      refine O.nil ?_
      try refine Run.keep [0, 1, 2, 6, 7, 8, 9, 10, 11, 12, 13, 14, 15, 16, 19, 25, 43, 49, 85, 98] rfl rfl ?_
      repeat (first | refine Run.seq ?_ | refine Run.skip ?_)
      first | refine Run.condT rfl rfl ?_ | refine Run.condF rfl rfl ?_ | refine Run.condT rfl (by assumption) ?_ | refine Run.condF rfl (by assumption) ?_
      repeat (first | refine Run.seq ?_ | refine Run.skip ?_ | refine Run.block ?_)
      refine Run.region ?_
      refine O.move rfl rfl ?_
      refine O.nilCheck rfl rfl ?_
      refine O.field hE L29 rfl rfl rfl rfl ?_
      first | refine O.loadS hE T23 rfl rfl rfl (by rfl) rfl ?_ | refine O.loadE hE T23 rfl rfl (by rfl) rfl ?_ | refine O.load hE T23 rfl rfl rfl rfl ?_
      refine O.index hE T23 rfl T41 rfl rfl newest_pv rfl (by omega) hat rfl rfl rfl ?_
      refine O.load hE T41 rfl rfl rfl rfl ?_
      refine O.alloc hE 9 T41 rfl rfl rfl ?_
      refine O.store hE T41 rfl rfl rfl rfl rfl rfl ?_
      refine O.nil ?_
      try refine Run.keep [0, 1, 2, 6, 7, 8, 9, 10, 11, 12, 13, 14, 15, 16, 19, 25, 43, 49, 85, 98] rfl rfl ?_
      repeat (first | refine Run.seq ?_ | refine Run.skip ?_ | refine Run.block ?_)
      refine Run.region ?_
      refine O.move rfl rfl ?_
      refine O.move rfl rfl ?_
      refine O.nilCheck rfl rfl ?_
      refine O.field hE L29 rfl rfl rfl rfl ?_
      first | refine O.loadS hE T23 rfl rfl rfl (by rfl) rfl ?_ | refine O.loadE hE T23 rfl rfl (by rfl) rfl ?_ | refine O.load hE T23 rfl rfl rfl rfl ?_
      refine O.slice hE T23 rfl T41 rfl rfl newest_pv rfl rfl rfl (by omega) (by rw [hAl]; omega) (by exact Int.le_refl _) hys rfl ?_
      refine O.nilCheck rfl rfl ?_
      refine O.field hE L29 rfl rfl rfl rfl ?_
      refine O.store hE T23 rfl rfl rfl rfl rfl rfl ?_
      refine O.nil ?_
      try refine Run.keep [0, 1, 2, 6, 7, 8, 9, 10, 11, 12, 13, 14, 15, 16, 19, 25, 43, 49, 85, 98] rfl rfl ?_
      repeat (first | refine Run.seq ?_ | refine Run.skip ?_ | refine Run.block ?_)
      refine Run.region ?_
      refine O.move rfl rfl ?_
      refine O.load hE T41 rfl rfl rfl rfl ?_
      refine O.callE cl rfl (by first | rfl | simp [closed, men3, mens2_app, mens2_ints, mens2, men2, men1, mens1_app, mens1_ints, mens1]) (by first | rfl | simp [d2, ds1_ints, ds1_app, ds1, d1, ds0_app, ds0_ints, ds0, d0]) rfl ?_
      refine O.move rfl rfl ?_
      refine O.extract rfl rfl rfl ?_
      refine O.extract rfl rfl rfl ?_
      refine O.assign rfl rfl ?_
      refine O.assign rfl rfl ?_
      refine O.nil ?_
      try refine Run.keep [0, 1, 2, 6, 7, 8, 9, 10, 11, 12, 13, 14, 15, 16, 19, 25, 43, 49, 85, 98] rfl rfl ?_
      repeat (first | refine Run.seq ?_ | refine Run.skip ?_ | refine Run.block ?_)
      refine Run.region ?_
      refine O.move rfl rfl ?_
      refine O.move rfl rfl ?_
      first | refine O.cmp rfl rfl rfl (by first | exact decide_eq_true (by omega) | exact decide_eq_false (by omega)) rfl ?_ | refine O.cmp rfl rfl rfl rfl rfl ?_
      refine O.assign rfl rfl ?_
      refine O.assign rfl rfl ?_
      refine O.nil ?_
      try refine Run.keep [0, 1, 2, 6, 7, 8, 9, 10, 11, 12, 13, 14, 15, 16, 19, 25, 43, 49, 85, 98] rfl rfl ?_
      refine Run.ret ?_
      (try repeat (first | refine thenR_ret ?_ | refine roundR_ret ?_ | refine blockR_ret ?_))
      exact Ends.of hE (.inr rfl) rfl rfl (SLe.drop (by repeat (first | exact TmIn.nil | refine TmIn.cons rfl ?_)) (by repeat (first | exact BxIn.nil | refine BxIn.cons rfl ?_)) rfl rfl)
  | succ k ih =>
    intro ss os A B hk hl hlo hs hA hB
    have hE := EnLOk g lnR
    rw [covP_succ]
    have hp2 : 2 ^ (k + 1) = 2 * 2 ^ k := by rw [Nat.pow_succ]; omega
    have hp16 : 2 ^ k ≤ 8 := Nat.pow_le_pow_right (n := 2) (j := 3) (by decide) (by omega)
    have hp1 : 1 ≤ 2 ^ k := Nat.pow_pos (by decide)
    rw [hp2] at hl hlo hA hB
    have hmo : (os.map PV.bool).length = os.length := by simp
    have c1 := (fnAny (g := g) os (by omega)).lent lnR
    cases hany : os.any id with
    | false =>
      rw [hany] at c1
      rw [if_neg (by simp)]
      generalize rootQ (digP T mode) (k + 1) ss = R at *
      have hat : (([R] ++ B).map bys)[(0 : Int).toNat]? = some (bys R) := rfl
      have hys : ((([R] ++ B).map bys).take ((([R] ++ B).map bys).length : Int).toNat).drop (1 : Int).toNat = B.map bys := by rw [Int.toNat_natCast, List.take_length]; rfl
      have hBl : (([R] ++ B).map bys).length = B.length + 1 := by simp
      have hBl2 : ([R] ++ B).length = B.length + 1 := by simp
      refine FnL.of Tryd.func37 rfl rfl rfl rfl ?_
      repeat (first | refine Run.seq ?_ | refine Run.skip ?_ | refine Run.block ?_)
      refine Run.region ?_
      refine O.assign rfl rfl ?_
      refine O.assign rfl rfl ?_
      refine O.nil ?_
      try refine Run.keep [0, 1, 2, 6, 7, 8, 9, 10, 11, 12, 13, 14, 15, 16, 19, 25, 43, 49, 85, 98] rfl rfl ?_
      repeat (first | refine Run.seq ?_ | refine Run.skip ?_ | refine Run.block ?_)
      refine Run.region ?_
      refine O.move rfl rfl ?_
      refine O.callE c1 rfl (by first | rfl | simp [closed, men3, mens2_app, mens2_ints, mens2, men2, men1, mens1_app, mens1_ints, mens1]) (by first | rfl | simp [d2, ds1_ints, ds1_app, ds1, d1, ds0_app, ds0_ints, ds0, d0]) rfl ?_
      refine O.un rfl rfl rfl rfl rfl ?_
      refine O.nil ?_
      try refine Run.keep [0, 1, 2, 6, 7, 8, 9, 10, 11, 12, 13, 14, 15, 16, 19, 25, 43, 49, 85, 98] rfl rfl ?_
      repeat (first | refine Run.seq ?_ | refine Run.skip ?_)
      first | refine Run.condT rfl rfl ?_ | refine Run.condF rfl rfl ?_ | refine Run.condT rfl (by assumption) ?_ | refine Run.condF rfl (by assumption) ?_
      repeat (first | refine Run.seq ?_ | refine Run.skip ?_ | refine Run.block ?_)
      refine Run.region ?_
      refine O.move rfl rfl ?_
      refine O.nilCheck rfl rfl ?_
      refine O.field hE L29 rfl rfl rfl rfl ?_
      first | refine O.loadS hE T27 rfl rfl rfl (by rfl) rfl ?_ | refine O.loadE hE T27 rfl rfl (by rfl) rfl ?_ | refine O.load hE T27 rfl rfl rfl rfl ?_
      first | refine O.lenN hE T27 rfl rfl rfl (by first | exact newest_pv | exact newest_gl rfl rfl | trivial) lenC rfl ?_ | refine O.lenLst hE T27 rfl rfl rfl (by first | exact newest_pv | exact newest_gl rfl rfl | trivial) rfl ?_
      first | refine O.cmp rfl rfl rfl (by first | exact decide_eq_true (by omega) | exact decide_eq_false (by omega)) rfl ?_ | refine O.cmp rfl rfl rfl rfl rfl ?_
      refine O.nil ?_
      try refine Run.keep [0, 1, 2, 6, 7, 8, 9, 10, 11, 12, 13, 14, 15, 16, 19, 25, 43, 49, 85, 98] rfl rfl ?_
      repeat (first | refine Run.seq ?_ | refine Run.skip ?_)
      first | refine Run.condT rfl rfl ?_ | refine Run.condF rfl rfl ?_ | refine Run.condT rfl (by assumption) ?_ | refine Run.condF rfl (by assumption) ?_
      repeat (first | refine Run.seq ?_ | refine Run.skip ?_ | refine Run.block ?_)
      refine Run.region ?_
      refine O.move rfl rfl ?_
      refine O.nilCheck rfl rfl ?_
      refine O.field hE L29 rfl rfl rfl rfl ?_
      first | refine O.loadS hE T27 rfl rfl rfl (by rfl) rfl ?_ | refine O.loadE hE T27 rfl rfl (by rfl) rfl ?_ | refine O.load hE T27 rfl rfl rfl rfl ?_
      refine O.index hE T27 rfl T33 rfl rfl newest_pv rfl (by omega) hat rfl rfl rfl ?_
      first | refine O.loadS hE T33 rfl rfl rfl (by rfl) rfl ?_ | refine O.loadE hE T33 rfl rfl (by rfl) rfl ?_ | refine O.load hE T33 rfl rfl rfl rfl ?_
      refine O.assign rfl rfl ?_
      refine O.nil ?_
      try refine Run.keep [0, 1, 2, 6, 7, 8, 9, 10, 11, 12, 13, 14, 15, 16, 19, 25, 43, 49, 85, 98] rfl rfl ?_
      repeat (first | refine Run.seq ?_ | refine Run.skip ?_ | refine Run.block ?_)
      refine Run.region ?_
      refine O.move rfl rfl ?_
      refine O.move rfl rfl ?_
      refine O.nilCheck rfl rfl ?_
      refine O.field hE L29 rfl rfl rfl rfl ?_
      first | refine O.loadS hE T27 rfl rfl rfl (by rfl) rfl ?_ | refine O.loadE hE T27 rfl rfl (by rfl) rfl ?_ | refine O.load hE T27 rfl rfl rfl rfl ?_
      refine O.slice hE T27 rfl T33 rfl rfl newest_pv rfl rfl rfl (by omega) (by rw [hBl]; omega) (by exact Int.le_refl _) hys rfl ?_
      refine O.nilCheck rfl rfl ?_
      refine O.field hE L29 rfl rfl rfl rfl ?_
      refine O.store hE T27 rfl rfl rfl rfl rfl rfl ?_
      refine O.nil ?_
      try refine Run.keep [0, 1, 2, 6, 7, 8, 9, 10, 11, 12, 13, 14, 15, 16, 19, 25, 43, 49, 85, 98] rfl rfl ?_
      repeat (first | refine Run.seq ?_ | refine Run.skip ?_ | refine Run.block ?_)
      refine Run.region ?_
      refine O.move rfl rfl ?_
      refine O.assign rfl rfl ?_
      refine O.assign rfl rfl ?_
      refine O.nil ?_
      try refine Run.keep [0, 1, 2, 6, 7, 8, 9, 10, 11, 12, 13, 14, 15, 16, 19, 25, 43, 49, 85, 98] rfl rfl ?_
      refine Run.ret ?_
      (try repeat (first | refine thenR_ret ?_ | refine roundR_ret ?_ | refine blockR_ret ?_))
      exact Ends.of hE (.inr rfl) rfl rfl (SLe.drop (by repeat (first | exact TmIn.nil | refine TmIn.cons rfl ?_)) (by repeat (first | exact BxIn.nil | refine BxIn.cons rfl ?_)) rfl rfl)
    | true =>
      rw [hany] at c1
      rw [if_pos rfl]
      rw [rootQ_two hl]
      have hs1 : ∀ s ∈ ss.take (2 ^ k), Sok s := fun s h => hs s (List.mem_of_mem_take h)
      have hs2 : ∀ s ∈ ss.drop (2 ^ k), Sok s := fun s h => hs s (List.mem_of_mem_drop h)
      have l2 := covP_len (D := digP T mode) k (ss.drop (2 ^ k)) (os.drop (2 ^ k))
      have ci1 := ih (ss.take (2 ^ k)) (os.take (2 ^ k)) ((covP (digP T mode) k (ss.drop (2 ^ k)) (os.drop (2 ^ k))).1 ++ A) ((covP (digP T mode) k (ss.drop (2 ^ k)) (os.drop (2 ^ k))).2 ++ B) (by omega) (by rw [List.length_take]; omega) (by rw [List.length_take]; omega) hs1 (by rw [List.length_append]; omega) (by rw [List.length_append]; omega)
      have ci2 := ih (ss.drop (2 ^ k)) (os.drop (2 ^ k)) A B (by omega) (by rw [List.length_drop]; omega) (by rw [List.length_drop]; omega) hs2 (by omega) (by omega)
      have m1 := rootQ_max (T := T) (mode := mode) (k := k) (by omega) hs1
      have m2 := rootQ_max (T := T) (mode := mode) (k := k) (by omega) hs2
      rw [List.append_assoc, List.append_assoc]
      have hy1 : ((os.map PV.bool).take ((2 ^ k : Nat) : Int).toNat).drop (0 : Int).toNat = (os.take (2 ^ k)).map PV.bool := by rw [Int.toNat_natCast]; exact List.map_take.symm
      have hy2 : ((os.map PV.bool).take ((os.map PV.bool).length : Int).toNat).drop ((2 ^ k : Nat) : Int).toNat = (os.drop (2 ^ k)).map PV.bool := by rw [Int.toNat_natCast, Int.toNat_natCast, List.take_length, List.map_drop]
      generalize covP (digP T mode) k (ss.take (2 ^ k)) (os.take (2 ^ k)) = C1 at *
      generalize covP (digP T mode) k (ss.drop (2 ^ k)) (os.drop (2 ^ k)) = C2 at *
      generalize rootQ (digP T mode) k (ss.take (2 ^ k)) = r1 at *
      generalize rootQ (digP T mode) k (ss.drop (2 ^ k)) = r2 at *
      have cn := (fnNode hT (a := r1) (b := r2) hm (by omega) (by omega)).lent lnR
      generalize digP T mode 2 [r1, r2] = R at *
      generalize 2 ^ k = p at *
      have hq : IntKind.i64.wrap ((os.length : Int) / 2) = (p : Int) := by rw [wrap_i64 (by omega) (by omega)]; omega
      refine FnL.of Tryd.func37 rfl rfl rfl rfl ?_
      repeat (first | refine Run.seq ?_ | refine Run.skip ?_ | refine Run.block ?_)
      refine Run.region ?_
      refine O.assign rfl rfl ?_
      refine O.assign rfl rfl ?_
      refine O.nil ?_
      try refine Run.keep [0, 1, 2, 6, 7, 8, 9, 10, 11, 12, 13, 14, 15, 16, 19, 25, 43, 49, 85, 98] rfl rfl ?_
      repeat (first | refine Run.seq ?_ | refine Run.skip ?_ | refine Run.block ?_)
      refine Run.region ?_
      refine O.move rfl rfl ?_
      refine O.callE c1 rfl (by first | rfl | simp [closed, men3, mens2_app, mens2_ints, mens2, men2, men1, mens1_app, mens1_ints, mens1]) (by first | rfl | simp [d2, ds1_ints, ds1_app, ds1, d1, ds0_app, ds0_ints, ds0, d0]) rfl ?_
      refine O.un rfl rfl rfl rfl rfl ?_
      refine O.nil ?_
      try refine Run.keep [0, 1, 2, 6, 7, 8, 9, 10, 11, 12, 13, 14, 15, 16, 19, 25, 43, 49, 85, 98] rfl rfl ?_
      repeat (first | refine Run.seq ?_ | refine Run.skip ?_)
      first | refine Run.condT rfl rfl ?_ | refine Run.condF rfl rfl ?_ | refine Run.condT rfl (by assumption) ?_ | refine Run.condF rfl (by assumption) ?_
      repeat (first | refine Run.seq ?_ | refine Run.skip ?_ | refine Run.block ?_)
      refine Run.region ?_
      refine O.move rfl rfl ?_
      first | refine O.lenN hE T25 rfl rfl rfl (by first | exact newest_pv | exact newest_gl rfl rfl | trivial) lenC rfl ?_ | refine O.lenLst hE T25 rfl rfl rfl (by first | exact newest_pv | exact newest_gl rfl rfl | trivial) rfl ?_
      first | refine O.cmp rfl rfl rfl (by first | exact decide_eq_true (by omega) | exact decide_eq_false (by omega)) rfl ?_ | refine O.cmp rfl rfl rfl rfl rfl ?_
      refine O.nil ?_
      try refine Run.keep [0, 1, 2, 6, 7, 8, 9, 10, 11, 12, 13, 14, 15, 16, 19, 25, 43, 49, 85, 98] rfl rfl ?_
      repeat (first | refine Run.seq ?_ | refine Run.skip ?_)
      first | refine Run.condT rfl rfl ?_ | refine Run.condF rfl rfl ?_ | refine Run.condT rfl (by assumption) ?_ | refine Run.condF rfl (by assumption) ?_
      repeat (first | refine Run.seq ?_ | refine Run.skip ?_ | refine Run.block ?_)
      refine Run.region ?_
      refine O.move rfl rfl ?_
      refine O.move rfl rfl ?_
      refine O.move rfl rfl ?_
      first | refine O.lenN hE T25 rfl rfl rfl (by first | exact newest_pv | exact newest_gl rfl rfl | trivial) lenC rfl ?_ | refine O.lenLst hE T25 rfl rfl rfl (by first | exact newest_pv | exact newest_gl rfl rfl | trivial) rfl ?_
      refine O.quoE rfl rfl (by omega) (by omega) hq rfl ?_
      refine O.slice hE T25 rfl T4 rfl rfl newest_pv rfl rfl rfl (by omega) (by omega) (by show (p : Int) ≤ ((os.map PV.bool).length : Int); omega) hy1 rfl ?_
      refine O.move rfl rfl ?_
      refine O.lend (ln := lnR) ci1 rfl rfl rfl (.inl rfl) (by repeat (first | exact BxIn.nil | refine BxIn.cons rfl ?_)) rfl rfl rfl rfl rfl rfl rfl rfl rfl rfl ?_
      refine O.move rfl rfl ?_
      refine O.extract rfl rfl rfl ?_
      refine O.extract rfl rfl rfl ?_
      refine O.assign rfl rfl ?_
      refine O.assign rfl rfl ?_
      refine O.nil ?_
      try refine Run.keep [0, 1, 2, 6, 7, 8, 9, 10, 11, 12, 13, 14, 15, 16, 19, 25, 43, 49, 85, 98] rfl rfl ?_
      repeat (first | refine Run.seq ?_ | refine Run.skip ?_ | refine Run.block ?_)
      refine Run.region ?_
      refine O.move rfl rfl ?_
      refine O.un rfl rfl rfl rfl rfl ?_
      refine O.nil ?_
      try refine Run.keep [0, 1, 2, 6, 7, 8, 9, 10, 11, 12, 13, 14, 15, 16, 19, 25, 43, 49, 85, 98] rfl rfl ?_
      repeat (first | refine Run.seq ?_ | refine Run.skip ?_)
      first | refine Run.condT rfl rfl ?_ | refine Run.condF rfl rfl ?_ | refine Run.condT rfl (by assumption) ?_ | refine Run.condF rfl (by assumption) ?_
      repeat (first | refine Run.seq ?_ | refine Run.skip ?_ | refine Run.block ?_)
      refine Run.region ?_
      refine O.move rfl rfl ?_
      refine O.move rfl rfl ?_
      refine O.move rfl rfl ?_
      first | refine O.lenN hE T25 rfl rfl rfl (by first | exact newest_pv | exact newest_gl rfl rfl | trivial) lenC rfl ?_ | refine O.lenLst hE T25 rfl rfl rfl (by first | exact newest_pv | exact newest_gl rfl rfl | trivial) rfl ?_
      refine O.quoE rfl rfl (by omega) (by omega) hq rfl ?_
      refine O.slice hE T25 rfl T4 rfl rfl newest_pv rfl rfl rfl (by omega) (by show (p : Int) ≤ ((os.map PV.bool).length : Int); omega) (by exact Int.le_refl _) hy2 rfl ?_
      refine O.move rfl rfl ?_
      refine O.lend (ln := lnR) ci2 rfl rfl rfl (.inl rfl) (by repeat (first | exact BxIn.nil | refine BxIn.cons rfl ?_)) rfl rfl rfl rfl rfl rfl rfl rfl rfl rfl ?_
      refine O.move rfl rfl ?_
      refine O.extract rfl rfl rfl ?_
      refine O.extract rfl rfl rfl ?_
      refine O.assign rfl rfl ?_
      refine O.assign rfl rfl ?_
      refine O.nil ?_
      try refine Run.keep [0, 1, 2, 6, 7, 8, 9, 10, 11, 12, 13, 14, 15, 16, 19, 25, 43, 49, 85, 98] rfl rfl ?_
      repeat (first | refine Run.seq ?_ | refine Run.skip ?_ | refine Run.block ?_)
      refine Run.region ?_
      refine O.move rfl rfl ?_
      refine O.un rfl rfl rfl rfl rfl ?_
      refine O.nil ?_
      try refine Run.keep [0, 1, 2, 6, 7, 8, 9, 10, 11, 12, 13, 14, 15, 16, 19, 25, 43, 49, 85, 98] rfl rfl ?_
      repeat (first | refine Run.seq ?_ | refine Run.skip ?_)
      first | refine Run.condT rfl rfl ?_ | refine Run.condF rfl rfl ?_ | refine Run.condT rfl (by assumption) ?_ | refine Run.condF rfl (by assumption) ?_
      repeat (first | refine Run.seq ?_ | refine Run.skip ?_ | refine Run.block ?_)
      refine Run.region ?_
      refine O.move rfl rfl ?_
      refine O.move rfl rfl ?_
      refine O.move rfl rfl ?_
      refine O.callE cn rfl (by first | rfl | simp [closed, men3, mens2_app, mens2_ints, mens2, men2, men1, mens1_app, mens1_ints, mens1]) (by first | rfl | simp [d2, ds1_ints, ds1_app, ds1, d1, ds0_app, ds0_ints, ds0, d0]) rfl ?_
      refine O.move rfl rfl ?_
      refine O.extract rfl rfl rfl ?_
      refine O.extract rfl rfl rfl ?_
      refine O.assign rfl rfl ?_
      refine O.assign rfl rfl ?_
      refine O.nil ?_
      try refine Run.keep [0, 1, 2, 6, 7, 8, 9, 10, 11, 12, 13, 14, 15, 16, 19, 25, 43, 49, 85, 98] rfl rfl ?_
      repeat (first | refine Run.seq ?_ | refine Run.skip ?_ | refine Run.block ?_)
      refine Run.region ?_
      refine O.move rfl rfl ?_
      refine O.move rfl rfl ?_
      first | refine O.cmp rfl rfl rfl (by first | exact decide_eq_true (by omega) | exact decide_eq_false (by omega)) rfl ?_ | refine O.cmp rfl rfl rfl rfl rfl ?_
      refine O.assign rfl rfl ?_
      refine O.assign rfl rfl ?_
      refine O.nil ?_
      try refine Run.keep [0, 1, 2, 6, 7, 8, 9, 10, 11, 12, 13, 14, 15, 16, 19, 25, 43, 49, 85, 98] rfl rfl ?_
      refine Run.ret ?_
      (try repeat (first | refine thenR_ret ?_ | refine roundR_ret ?_ | refine blockR_ret ?_))
      exact Ends.of hE (.inr rfl) rfl rfl (SLe.drop (by repeat (first | exact TmIn.nil | refine TmIn.cons rfl ?_)) (by repeat (first | exact BxIn.nil | refine BxIn.cons rfl ?_)) rfl rfl)
theorem fnRooted {T : List Int → List Int → List Int} (hT : Feeds g T) {mode : Int} (hm : mode = 1 ∨ mode = 2) {k : Nat} {ss : List Sl} {os : List Bool} (hk : k ≤ 4) (hl : ss.length = 2 ^ k) (hlo : os.length = 2 ^ k) (hs : ∀ s ∈ ss, Sok s) :
    FnC (En Tryd.prog g) 21 [.pv (.int .i64 mode), .pv (.lst 1 (os.map PV.bool)), .agg [.pv (.lst 3 ((covP (digP T mode) k ss os).1.map slE)), .pv (.lst 1 ((covP (digP T mode) k ss os).2.map bys))]] (.tup [.pv (bys (rootQ (digP T mode) k ss)), .pv (.int .i64 0)]) [] := by
  have hE := EnOk g
  have h16 : 2 ^ k ≤ 16 := Nat.pow_le_pow_right (n := 2) (j := 4) (by decide) (by omega)
  have c1 := fnModesS (g := g) hm
  have c2 := fnPower (g := g) hk
  rw [← hlo] at c2
  have c3 := fnBuild hT hm k ss os [] [] hk hl hlo hs (by simp; omega) (by simp; omega)
  rw [List.append_nil, List.append_nil] at c3
  have m1 := rootQ_max (T := T) (mode := mode) hk hs
  generalize covP (digP T mode) k ss os = C at *
  generalize rootQ (digP T mode) k ss = Q at *
  have hmo : (os.map PV.bool).length = os.length := by simp
  have hQl : (Q.map (PV.int .u8)).length = Q.length := by simp
  refine FnC.of Tryd.func21 rfl rfl rfl rfl ?_
  repeat (first | refine Run.seq ?_ | refine Run.skip ?_ | refine Run.block ?_)
  refine Run.region ?_
  refine O.box 5 rfl (by first | rfl | exact cells_ones (by simp [ones_app, ones_ints, ones, AV.one, PV.one])) rfl rfl ?_
  refine O.assign rfl rfl ?_
  refine O.assign rfl rfl ?_
  refine O.nil ?_
  try refine Run.keep [0, 1, 2, 5, 6, 7, 8, 9, 12, 16, 36] rfl rfl ?_
  repeat (first | refine Run.seq ?_ | refine Run.skip ?_ | refine Run.block ?_)
  refine Run.region ?_
  refine O.move rfl rfl ?_
  refine O.callE c1 rfl (by first | rfl | simp [closed, men3, mens2_app, mens2_ints, mens2, men2, men1, mens1_app, mens1_ints, mens1]) (by first | rfl | simp [d2, ds1_ints, ds1_app, ds1, d1, ds0_app, ds0_ints, ds0, d0]) rfl ?_
  refine O.un rfl rfl rfl rfl rfl ?_
  refine O.nil ?_
  try refine Run.keep [0, 1, 2, 5, 6, 7, 8, 9, 12, 16, 36] rfl rfl ?_
  repeat (first | refine Run.seq ?_ | refine Run.skip ?_)
  first | refine Run.condT rfl rfl ?_ | refine Run.condF rfl rfl ?_ | refine Run.condT rfl (by assumption) ?_ | refine Run.condF rfl (by assumption) ?_
  repeat (first | refine Run.seq ?_ | refine Run.skip ?_ | refine Run.block ?_)
  refine Run.region ?_
  refine O.move rfl rfl ?_
  first | refine O.lenN hE T25 rfl rfl rfl (by first | exact newest_pv | exact newest_gl rfl rfl | trivial) lenC rfl ?_ | refine O.lenLst hE T25 rfl rfl rfl (by first | exact newest_pv | exact newest_gl rfl rfl | trivial) rfl ?_
  refine O.callE c2 rfl (by first | rfl | simp [closed, men3, mens2_app, mens2_ints, mens2, men2, men1, mens1_app, mens1_ints, mens1]) (by first | rfl | simp [d2, ds1_ints, ds1_app, ds1, d1, ds0_app, ds0_ints, ds0, d0]) rfl ?_
  refine O.un rfl rfl rfl rfl rfl ?_
  refine O.nil ?_
  try refine Run.keep [0, 1, 2, 5, 6, 7, 8, 9, 12, 16, 36] rfl rfl ?_
  repeat (first | refine Run.seq ?_ | refine Run.skip ?_)
  first | refine Run.condT rfl rfl ?_ | refine Run.condF rfl rfl ?_ | refine Run.condT rfl (by assumption) ?_ | refine Run.condF rfl (by assumption) ?_
  repeat (first | refine Run.seq ?_ | refine Run.skip ?_ | refine Run.block ?_)
  refine Run.region ?_
  refine O.move rfl rfl ?_
  refine O.move rfl rfl ?_
  refine O.lend (ln := lnR) c3 rfl rfl rfl (.inl rfl) (by repeat (first | exact BxIn.nil | refine BxIn.cons rfl ?_)) rfl rfl rfl rfl rfl rfl rfl rfl rfl rfl ?_
  refine O.move rfl rfl ?_
  refine O.extract rfl rfl rfl ?_
  refine O.extract rfl rfl rfl ?_
  refine O.assign rfl rfl ?_
  refine O.assign rfl rfl ?_
  refine O.nil ?_
  try refine Run.keep [0, 1, 2, 5, 6, 7, 8, 9, 12, 16, 36] rfl rfl ?_
  repeat (first | refine Run.seq ?_ | refine Run.skip ?_ | refine Run.block ?_)
  refine Run.region ?_
  refine O.move rfl rfl ?_
  refine O.un rfl rfl rfl rfl rfl ?_
  refine O.move rfl rfl ?_
  first | (refine O.yes rfl rfl (by first | rfl | assumption) ?_; refine O.field hE L29 rfl rfl rfl rfl ?_) | refine O.no rfl rfl rfl rfl ?_
  first | (refine O.yes rfl rfl (by first | rfl | assumption) ?_; first | refine O.loadS hE T23 rfl rfl rfl (by rfl) rfl ?_ | refine O.loadE hE T23 rfl rfl (by rfl) rfl ?_ | refine O.load hE T23 rfl rfl rfl rfl ?_) | refine O.no rfl rfl rfl rfl ?_
  first | (refine O.yes rfl rfl (by first | rfl | assumption) ?_; first | refine O.lenN hE T23 rfl rfl rfl (by first | exact newest_pv | exact newest_gl rfl rfl | trivial) lenC rfl ?_ | refine O.lenLst hE T23 rfl rfl rfl (by first | exact newest_pv | exact newest_gl rfl rfl | trivial) rfl ?_) | refine O.no rfl rfl rfl rfl ?_
  first | (refine O.yes rfl rfl (by first | rfl | assumption) ?_; first | refine O.cmp rfl rfl rfl (by first | exact decide_eq_true (by omega) | exact decide_eq_false (by omega)) rfl ?_ | refine O.cmp rfl rfl rfl rfl rfl ?_) | refine O.no rfl rfl rfl rfl ?_
  refine O.pick rfl rfl rfl rfl rfl ?_
  refine O.move rfl rfl ?_
  first | (refine O.yes rfl rfl (by first | rfl | assumption) ?_; refine O.field hE L29 rfl rfl rfl rfl ?_) | refine O.no rfl rfl rfl rfl ?_
  first | (refine O.yes rfl rfl (by first | rfl | assumption) ?_; first | refine O.loadS hE T27 rfl rfl rfl (by rfl) rfl ?_ | refine O.loadE hE T27 rfl rfl (by rfl) rfl ?_ | refine O.load hE T27 rfl rfl rfl rfl ?_) | refine O.no rfl rfl rfl rfl ?_
  first | (refine O.yes rfl rfl (by first | rfl | assumption) ?_; first | refine O.lenN hE T27 rfl rfl rfl (by first | exact newest_pv | exact newest_gl rfl rfl | trivial) lenC rfl ?_ | refine O.lenLst hE T27 rfl rfl rfl (by first | exact newest_pv | exact newest_gl rfl rfl | trivial) rfl ?_) | refine O.no rfl rfl rfl rfl ?_
  first | (refine O.yes rfl rfl (by first | rfl | assumption) ?_; first | refine O.cmp rfl rfl rfl (by first | exact decide_eq_true (by omega) | exact decide_eq_false (by omega)) rfl ?_ | refine O.cmp rfl rfl rfl rfl rfl ?_) | refine O.no rfl rfl rfl rfl ?_
  refine O.pick rfl rfl rfl rfl rfl ?_
  refine O.nil ?_
  try refine Run.keep [0, 1, 2, 5, 6, 7, 8, 9, 12, 16, 36] rfl rfl ?_
  repeat (first | refine Run.seq ?_ | refine Run.skip ?_)
  first | refine Run.condT rfl rfl ?_ | refine Run.condF rfl rfl ?_ | refine Run.condT rfl (by assumption) ?_ | refine Run.condF rfl (by assumption) ?_
  repeat (first | refine Run.seq ?_ | refine Run.skip ?_ | refine Run.block ?_)
  refine Run.region ?_
  refine O.lit hE 57 T33 rfl T5 rfl rfl rfl rfl rfl rfl rfl rfl ?_
  refine O.move rfl rfl ?_
  refine O.appM (PV.int .u8) (q := []) (r := Q) hE T33 rfl T5 rfl rfl rfl rfl rfl newest_pv rfl rfl rfl rfl (by simp; omega) (by simp [maxLen]; omega) rfl ?_
  refine O.assign rfl rfl ?_
  refine O.assign rfl rfl ?_
  refine O.nil ?_
  try refine Run.keep [0, 1, 2, 5, 6, 7, 8, 9, 12, 16, 36] rfl rfl ?_
  refine Run.ret ?_
  exact Ends.of hE (.inr rfl) rfl rfl (SLe.res0 (AVle.tups (.cons (AVle.lst _ _ _ (lstOf_gl rfl (by simp))) (.cons (AVle.of_eq rfl) .nil))) rfl)
theorem fnSameSlot (s : Sl) : FnC (En Tryd.prog g) 18 [slA s, slA s] (.pv (.bool true)) [] := by
  have hE := EnOk g
  have h1 : ((strOfNums s.salt).toList == (strOfNums s.salt).toList) = true := beq_self_eq_true _
  have h2 : ((strOfNums s.data).toList == (strOfNums s.data).toList) = true := beq_self_eq_true _
  obtain ⟨f, salt, data⟩ := s
  show FnC _ _ [.agg [.pv (.bool f), .pv (bys salt), .pv (bys data)], .agg [.pv (.bool f), .pv (bys salt), .pv (bys data)]] _ _
  cases f with
  | true =>
    refine FnC.of Tryd.func18 rfl rfl rfl rfl ?_
    repeat (first | refine Run.seq ?_ | refine Run.skip ?_ | refine Run.block ?_)
    refine Run.region ?_
    refine O.box 2 rfl (by first | rfl | exact cells_ones (by simp [ones_app, ones_ints, ones, AV.one, PV.one])) rfl rfl ?_
    refine O.box 3 rfl (by first | rfl | exact cells_ones (by simp [ones_app, ones_ints, ones, AV.one, PV.one])) rfl rfl ?_
    refine O.assign rfl rfl ?_
    refine O.nil ?_
    try refine Run.keep [0, 1, 2, 3, 4] rfl rfl ?_
    repeat (first | refine Run.seq ?_ | refine Run.skip ?_ | refine Run.block ?_)
    refine Run.region ?_
    refine O.field hE L41 rfl rfl rfl rfl ?_
    first | refine O.loadS hE T4 rfl rfl rfl (by rfl) rfl ?_ | refine O.loadE hE T4 rfl rfl (by rfl) rfl ?_ | refine O.load hE T4 rfl rfl rfl rfl ?_
    refine O.field hE L41 rfl rfl rfl rfl ?_
    first | refine O.loadS hE T4 rfl rfl rfl (by rfl) rfl ?_ | refine O.loadE hE T4 rfl rfl (by rfl) rfl ?_ | refine O.load hE T4 rfl rfl rfl rfl ?_
    refine O.eqB rfl rfl hE T4 rfl rfl rfl ?_
    refine O.move rfl rfl ?_
    first | (refine O.yes rfl rfl (by first | rfl | assumption) ?_; refine O.field hE L41 rfl rfl rfl rfl ?_) | refine O.no rfl rfl rfl rfl ?_
    first | (refine O.yes rfl rfl (by first | rfl | assumption) ?_; first | refine O.loadS hE T33 rfl rfl rfl (by rfl) rfl ?_ | refine O.loadE hE T33 rfl rfl (by rfl) rfl ?_ | refine O.load hE T33 rfl rfl rfl rfl ?_) | refine O.no rfl rfl rfl rfl ?_
    first | (refine O.yes rfl rfl (by first | rfl | assumption) ?_; refine O.str hE T33 rfl T5 rfl T9 rfl rfl rfl newest_pv (nums_bytes _) rfl rfl ?_) | refine O.no rfl rfl rfl rfl ?_
    first | (refine O.yes rfl rfl (by first | rfl | assumption) ?_; refine O.field hE L41 rfl rfl rfl rfl ?_) | refine O.no rfl rfl rfl rfl ?_
    first | (refine O.yes rfl rfl (by first | rfl | assumption) ?_; first | refine O.loadS hE T33 rfl rfl rfl (by rfl) rfl ?_ | refine O.loadE hE T33 rfl rfl (by rfl) rfl ?_ | refine O.load hE T33 rfl rfl rfl rfl ?_) | refine O.no rfl rfl rfl rfl ?_
    first | (refine O.yes rfl rfl (by first | rfl | assumption) ?_; refine O.str hE T33 rfl T5 rfl T9 rfl rfl rfl newest_pv (nums_bytes _) rfl rfl ?_) | refine O.no rfl rfl rfl rfl ?_
    first | (refine O.yes rfl rfl (by first | rfl | assumption) ?_; refine O.strEq rfl rfl h1 rfl ?_) | refine O.no rfl rfl rfl rfl ?_
    refine O.pick rfl rfl rfl rfl rfl ?_
    refine O.move rfl rfl ?_
    first | (refine O.yes rfl rfl (by first | rfl | assumption) ?_; refine O.field hE L41 rfl rfl rfl rfl ?_) | refine O.no rfl rfl rfl rfl ?_
    first | (refine O.yes rfl rfl (by first | rfl | assumption) ?_; first | refine O.loadS hE T33 rfl rfl rfl (by rfl) rfl ?_ | refine O.loadE hE T33 rfl rfl (by rfl) rfl ?_ | refine O.load hE T33 rfl rfl rfl rfl ?_) | refine O.no rfl rfl rfl rfl ?_
    first | (refine O.yes rfl rfl (by first | rfl | assumption) ?_; refine O.str hE T33 rfl T5 rfl T9 rfl rfl rfl newest_pv (nums_bytes _) rfl rfl ?_) | refine O.no rfl rfl rfl rfl ?_
    first | (refine O.yes rfl rfl (by first | rfl | assumption) ?_; refine O.field hE L41 rfl rfl rfl rfl ?_) | refine O.no rfl rfl rfl rfl ?_
    first | (refine O.yes rfl rfl (by first | rfl | assumption) ?_; first | refine O.loadS hE T33 rfl rfl rfl (by rfl) rfl ?_ | refine O.loadE hE T33 rfl rfl (by rfl) rfl ?_ | refine O.load hE T33 rfl rfl rfl rfl ?_) | refine O.no rfl rfl rfl rfl ?_
    first | (refine O.yes rfl rfl (by first | rfl | assumption) ?_; refine O.str hE T33 rfl T5 rfl T9 rfl rfl rfl newest_pv (nums_bytes _) rfl rfl ?_) | refine O.no rfl rfl rfl rfl ?_
    first | (refine O.yes rfl rfl (by first | rfl | assumption) ?_; refine O.strEq rfl rfl h2 rfl ?_) | refine O.no rfl rfl rfl rfl ?_
    refine O.pick rfl rfl rfl rfl rfl ?_
    refine O.assign rfl rfl ?_
    refine O.nil ?_
    try refine Run.keep [0, 1, 2, 3, 4] rfl rfl ?_
    (repeat (first | refine Run.seq ?_ | refine Run.skip ?_)); (try refine Run.ret ?_); first | exact Ends.flat hE (.inr rfl) rfl rfl (AVle.of_eq rfl) rfl | exact Ends.flat hE (.inl rfl) rfl rfl (AVle.of_eq rfl) rfl
  | false =>
    refine FnC.of Tryd.func18 rfl rfl rfl rfl ?_
    repeat (first | refine Run.seq ?_ | refine Run.skip ?_ | refine Run.block ?_)
    refine Run.region ?_
    refine O.box 2 rfl (by first | rfl | exact cells_ones (by simp [ones_app, ones_ints, ones, AV.one, PV.one])) rfl rfl ?_
    refine O.box 3 rfl (by first | rfl | exact cells_ones (by simp [ones_app, ones_ints, ones, AV.one, PV.one])) rfl rfl ?_
    refine O.assign rfl rfl ?_
    refine O.nil ?_
    try refine Run.keep [0, 1, 2, 3, 4] rfl rfl ?_
    repeat (first | refine Run.seq ?_ | refine Run.skip ?_ | refine Run.block ?_)
    refine Run.region ?_
    refine O.field hE L41 rfl rfl rfl rfl ?_
    first | refine O.loadS hE T4 rfl rfl rfl (by rfl) rfl ?_ | refine O.loadE hE T4 rfl rfl (by rfl) rfl ?_ | refine O.load hE T4 rfl rfl rfl rfl ?_
    refine O.field hE L41 rfl rfl rfl rfl ?_
    first | refine O.loadS hE T4 rfl rfl rfl (by rfl) rfl ?_ | refine O.loadE hE T4 rfl rfl (by rfl) rfl ?_ | refine O.load hE T4 rfl rfl rfl rfl ?_
    refine O.eqB rfl rfl hE T4 rfl rfl rfl ?_
    refine O.move rfl rfl ?_
    first | (refine O.yes rfl rfl (by first | rfl | assumption) ?_; refine O.field hE L41 rfl rfl rfl rfl ?_) | refine O.no rfl rfl rfl rfl ?_
    first | (refine O.yes rfl rfl (by first | rfl | assumption) ?_; first | refine O.loadS hE T33 rfl rfl rfl (by rfl) rfl ?_ | refine O.loadE hE T33 rfl rfl (by rfl) rfl ?_ | refine O.load hE T33 rfl rfl rfl rfl ?_) | refine O.no rfl rfl rfl rfl ?_
    first | (refine O.yes rfl rfl (by first | rfl | assumption) ?_; refine O.str hE T33 rfl T5 rfl T9 rfl rfl rfl newest_pv (nums_bytes _) rfl rfl ?_) | refine O.no rfl rfl rfl rfl ?_
    first | (refine O.yes rfl rfl (by first | rfl | assumption) ?_; refine O.field hE L41 rfl rfl rfl rfl ?_) | refine O.no rfl rfl rfl rfl ?_
    first | (refine O.yes rfl rfl (by first | rfl | assumption) ?_; first | refine O.loadS hE T33 rfl rfl rfl (by rfl) rfl ?_ | refine O.loadE hE T33 rfl rfl (by rfl) rfl ?_ | refine O.load hE T33 rfl rfl rfl rfl ?_) | refine O.no rfl rfl rfl rfl ?_
    first | (refine O.yes rfl rfl (by first | rfl | assumption) ?_; refine O.str hE T33 rfl T5 rfl T9 rfl rfl rfl newest_pv (nums_bytes _) rfl rfl ?_) | refine O.no rfl rfl rfl rfl ?_
    first | (refine O.yes rfl rfl (by first | rfl | assumption) ?_; refine O.strEq rfl rfl h1 rfl ?_) | refine O.no rfl rfl rfl rfl ?_
    refine O.pick rfl rfl rfl rfl rfl ?_
    refine O.move rfl rfl ?_
    first | (refine O.yes rfl rfl (by first | rfl | assumption) ?_; refine O.field hE L41 rfl rfl rfl rfl ?_) | refine O.no rfl rfl rfl rfl ?_
    first | (refine O.yes rfl rfl (by first | rfl | assumption) ?_; first | refine O.loadS hE T33 rfl rfl rfl (by rfl) rfl ?_ | refine O.loadE hE T33 rfl rfl (by rfl) rfl ?_ | refine O.load hE T33 rfl rfl rfl rfl ?_) | refine O.no rfl rfl rfl rfl ?_
    first | (refine O.yes rfl rfl (by first | rfl | assumption) ?_; refine O.str hE T33 rfl T5 rfl T9 rfl rfl rfl newest_pv (nums_bytes _) rfl rfl ?_) | refine O.no rfl rfl rfl rfl ?_
    first | (refine O.yes rfl rfl (by first | rfl | assumption) ?_; refine O.field hE L41 rfl rfl rfl rfl ?_) | refine O.no rfl rfl rfl rfl ?_
    first | (refine O.yes rfl rfl (by first | rfl | assumption) ?_; first | refine O.loadS hE T33 rfl rfl rfl (by rfl) rfl ?_ | refine O.loadE hE T33 rfl rfl (by rfl) rfl ?_ | refine O.load hE T33 rfl rfl rfl rfl ?_) | refine O.no rfl rfl rfl rfl ?_
    first | (refine O.yes rfl rfl (by first | rfl | assumption) ?_; refine O.str hE T33 rfl T5 rfl T9 rfl rfl rfl newest_pv (nums_bytes _) rfl rfl ?_) | refine O.no rfl rfl rfl rfl ?_
    first | (refine O.yes rfl rfl (by first | rfl | assumption) ?_; refine O.strEq rfl rfl h2 rfl ?_) | refine O.no rfl rfl rfl rfl ?_
    refine O.pick rfl rfl rfl rfl rfl ?_
    refine O.assign rfl rfl ?_
    refine O.nil ?_
    try refine Run.keep [0, 1, 2, 3, 4] rfl rfl ?_
    (repeat (first | refine Run.seq ?_ | refine Run.skip ?_)); (try refine Run.ret ?_); first | exact Ends.flat hE (.inr rfl) rfl rfl (AVle.of_eq rfl) rfl | exact Ends.flat hE (.inl rfl) rfl rfl (AVle.of_eq rfl) rfl
end Go.Proofs.YtokjeodlcilfpaaDoor.Vm
