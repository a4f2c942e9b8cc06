/- CoverShape: its walk. Conditions: the table of steps has 64 words. -/
import Derived.Test.YtokjeodlcilfpaaDoorCoverD
namespace Go.Proofs.YtokjeodlcilfpaaDoor.Vm
open Go Go.RowKit
set_option linter.unusedVariables false
set_option linter.unusedSimpArgs false
attribute [local irreducible] Ops Dr Run digP covP
variable {g : Nat → Option (List PV)}
theorem covP_shape {D : Int → List (List Int) → List Int} : ∀ (k : Nat) (ss tt : List Sl) (os : List Bool), ss.length = 2 ^ k → tt.length = 2 ^ k → (covP D k ss os).1.length = (covP D k tt os).1.length ∧ (covP D k ss os).2.length = (covP D k tt os).2.length
  | 0, ss, tt, os, h1, h2 => by
    rw [covP_zero, covP_zero]
    split
    · exact ⟨by rw [List.length_take, List.length_take, h1, h2], rfl⟩
    · exact ⟨rfl, rfl⟩
  | k + 1, ss, tt, os, h1, h2 => by
    have hp2 : 2 ^ (k + 1) = 2 * 2 ^ k := by rw [Nat.pow_succ]; omega
    rw [covP_succ, covP_succ]
    have a := covP_shape (D := D) k (ss.take (2 ^ k)) (tt.take (2 ^ k)) (os.take (2 ^ k)) (by rw [List.length_take]; omega) (by rw [List.length_take]; omega)
    have b := covP_shape (D := D) k (ss.drop (2 ^ k)) (tt.drop (2 ^ k)) (os.drop (2 ^ k)) (by rw [List.length_drop]; omega) (by rw [List.length_drop]; omega)
    split
    · exact ⟨by simp only [List.length_append]; omega, by simp only [List.length_append]; omega⟩
    · exact ⟨rfl, rfl⟩
theorem covP_pos {D : Int → List (List Int) → List Int} : ∀ (k : Nat) (ss : List Sl) (os : List Bool), ss.length = 2 ^ k → 0 < (covP D k ss os).1.length + (covP D k ss os).2.length
  | 0, ss, os, h1 => by
    rw [covP_zero]
    split
    · simp only [List.length_take, h1]; decide
    · simp
  | k + 1, ss, os, h1 => by
    have hp2 : 2 ^ (k + 1) = 2 * 2 ^ k := by rw [Nat.pow_succ]; omega
    rw [covP_succ]
    have a := covP_pos (D := D) k (ss.take (2 ^ k)) (os.take (2 ^ k)) (by rw [List.length_take]; omega)
    split
    · simp only [List.length_append]; omega
    · simp
theorem rootQ_tag {D : Int → List (List Int) → List Int} : ∀ (k : Nat) (ss : List Sl), ss.length = 2 ^ k → ∃ tag q, rootQ D k ss = D tag q
  | 0, ss, h => by
    match ss, h with
    | [s], _ => exact ⟨_, _, rfl⟩
  | k + 1, ss, h => ⟨_, _, rootQ_two (by rw [h, Nat.pow_succ]; omega)⟩
theorem covP_rest {D : Int → List (List Int) → List Int} : ∀ (k : Nat) (ss : List Sl) (os : List Bool), ss.length = 2 ^ k → ∀ d ∈ (covP D k ss os).2, ∃ tag q, d = D tag q
  | 0, ss, os, h1, d, hd => by
    rw [covP_zero] at hd
    split at hd
    · simp at hd
    · simp only [List.mem_singleton] at hd
      subst hd
      exact rootQ_tag 0 ss h1
  | k + 1, ss, os, h1, d, hd => by
    have hp2 : 2 ^ (k + 1) = 2 * 2 ^ k := by rw [Nat.pow_succ]; omega
    rw [covP_succ] at hd
    split at hd
    · rcases List.mem_append.1 hd with hd | hd
      · exact covP_rest k _ _ (by rw [List.length_take]; omega) d hd
      · exact covP_rest k _ _ (by rw [List.length_drop]; omega) d hd
    · simp only [List.mem_singleton] at hd
      subst hd
      exact rootQ_tag (k + 1) ss h1
theorem fnCoverShape {T : List Int → List Int → List Int} (hT : Feeds g T) {rs rm : List Rw} (w0 : Int) (hl : (rs.length : Int) ≤ 9223372036854775807) (hlm : (rm.length : Int) ≤ 9223372036854775807) : FnC (En Tryd.prog g) 3 [.pv (.lst 4 (rs.map rawE)), .pv (.lst 4 (rm.map rawE)), .pv (.int .i64 w0)] (.pv (.bool true)) [] := by
  have hE := EnOk g
  obtain ⟨k, ss, hk, hss, hsok, c1⟩ := slotsOf_ex (g := g) (rs := rs) hl
  obtain ⟨k', t0, hk', ht0, htok, c2⟩ := slotsOf_exB (g := g) (rs := rm) hlm
  have h16 : 2 ^ k ≤ 16 := Nat.pow_le_pow_right (n := 2) (j := 4) (by decide) (by omega)
  have h16' : 2 ^ k' ≤ 16 := Nat.pow_le_pow_right (n := 2) (j := 4) (by decide) (by omega)
  have hp' : 1 ≤ 2 ^ k' := Nat.pow_pos (by decide)
  have c3 := fnOpens (g := g) (ss := ss) w0 (by omega)
  have hol : ((List.range ss.length).map (bitO w0)).length = ss.length := by simp
  generalize (List.range ss.length).map (bitO w0) = os at *
  have c4 := fnCoverOf hT (mode := 1) (.inl rfl) hk hss hol hsok
  have hCr := covP_rest (D := digP T 1) k ss os hss
  have hCp := covP_pos (D := digP T 1) k ss os hss
  have hsh := fun tt h => covP_shape (D := digP T 1) k ss tt os hss h
  have hCl := covP_len (D := digP T 1) k ss os
  generalize covP (digP T 1) k ss os = C at *
  have hsm : (ss.map slE).length = ss.length := by simp
  refine FnC.of Tryd.func3 rfl rfl rfl rfl ?_
  repeat (first | refine Run.seq ?_ | refine Run.skip ?_ | refine Run.block ?_)
  refine Run.region ?_
  refine O.assign rfl rfl ?_
  refine O.nil ?_
  try refine Run.keep [0, 1, 2, 6, 7, 8, 9, 10, 11, 12, 13, 15, 24, 53, 54, 55, 56, 61] rfl rfl ?_
  repeat (first | refine Run.seq ?_ | refine Run.skip ?_ | refine Run.block ?_)
  refine Run.region ?_
  refine O.move rfl rfl ?_
  refine O.callE c1 rfl (by first | rfl | simp [closed, men3, mens2_app, mens2_ints, mens2, men2, men1, mens1_app, mens1_ints, mens1]) (by first | rfl | simp [d2, ds1_ints, ds1_app, ds1, d1, ds0_app, ds0_ints, ds0, d0]) rfl ?_
  refine O.move rfl rfl ?_
  refine O.call (bs' := []) (r' := .gl 68 t0.length) (bs2 := [(68, .lst 41 3 (t0.map slE))]) 0 c2 (evsO_les _ _ rfl) rfl rfl rfl rfl rfl rfl rfl ?_
  refine O.assign rfl rfl ?_
  refine O.assign rfl rfl ?_
  refine O.nil ?_
  try refine Run.keep [0, 1, 2, 6, 7, 8, 9, 10, 11, 12, 13, 15, 24, 53, 54, 55, 56, 61] rfl rfl ?_
  repeat (first | refine Run.seq ?_ | refine Run.skip ?_)
  refine Run.block ?_
  refine Run.loopInv (ι := List Sl) (fun ts => 1 ≤ ts.length ∧ ts.length ≤ 32 ∧ ∀ s ∈ ts, Sok s) (fun ts => ⟨97, [(2, .pv (.int .i64 w0)), (6, .pv (.bool false)), (7, .pv (.lst 3 (ss.map slE))), (8, .gl 68 ts.length)], [(68, .lst 41 3 (ts.map slE))]⟩) (fun ts => ss.length - ts.length) t0 ⟨by omega, by omega, htok⟩ ?_ ?_
  ·
    refine SLe.eqv (by repeat (first | exact TmIn.nil | refine TmIn.cons rfl ?_)) (by repeat (first | exact BxIn.nil | refine BxIn.cons rfl ?_)) rfl
  rintro ts ⟨ht1, ht2, htk⟩ ih
  have htm : (ts.map slE).length = ts.length := by simp
  by_cases hlt : ts.length < ss.length
  ·
    repeat (first | refine Run.seq ?_ | refine Run.skip ?_ | refine Run.block ?_)
    refine Run.region ?_
    refine O.move rfl rfl ?_
    refine O.lenLst hE T23 rfl rfl rfl (newest_gl rfl (by simp)) rfl ?_
    refine O.move rfl rfl ?_
    first | refine O.lenN hE T23 rfl rfl rfl (by first | exact newest_pv | exact newest_gl rfl rfl | trivial) lenC rfl ?_ | refine O.lenLst hE T23 rfl rfl rfl (by first | exact newest_pv | exact newest_gl rfl rfl | trivial) rfl ?_
    refine O.cmp rfl rfl rfl (decide_eq_true (show ((ts.map slE).length : Int) < (ss.length : Int) by omega)) rfl ?_
    refine O.nil ?_
    try refine Run.keep [0, 1, 2, 6, 7, 8, 9, 10, 11, 12, 13, 15, 24, 53, 54, 55, 56, 61] rfl rfl ?_
    repeat (first | refine Run.seq ?_ | refine Run.skip ?_)
    first | refine Run.condT rfl rfl ?_ | refine Run.condF rfl rfl ?_ | refine Run.condT rfl (by assumption) ?_ | refine Run.condF rfl (by assumption) ?_
    repeat (first | refine Run.seq ?_ | refine Run.skip ?_ | refine Run.block ?_)
    refine Run.region ?_
    refine O.move rfl rfl ?_
    refine O.move rfl rfl ?_
    refine O.appM slE (q := ts) (r := ts) hE T23 rfl T41 rfl rfl rfl rfl rfl (newest_gl rfl (by simp)) rfl rfl rfl rfl (by simp; omega) (by simp [maxLen]; omega) rfl ?_
    refine O.assign rfl rfl ?_
    refine O.nil ?_
    try refine Run.keep [0, 1, 2, 6, 7, 8, 9, 10, 11, 12, 13, 15, 24, 53, 54, 55, 56, 61] rfl rfl ?_
    refine ih (ts ++ ts) _ (by refine SLe.eqv (by repeat (first | exact TmIn.nil | refine TmIn.cons rfl ?_)) (by repeat (first | exact BxIn.nil | refine BxIn.cons rfl ?_)) rfl) ⟨by rw [List.length_append]; omega, by rw [List.length_append]; omega, fun s h => ?_⟩ (by rw [List.length_append]; omega)
    rcases List.mem_append.1 h with h | h <;> exact htk s h
  obtain ⟨tt, htt⟩ : ∃ tt, ts.take ss.length = tt := ⟨_, rfl⟩
  have httl : tt.length = ss.length := by rw [← htt, List.length_take]; omega
  have httk : ∀ s ∈ tt, Sok s := fun s h => htk s (List.mem_of_mem_take (htt ▸ h))
  have hyt : ((ts.map slE).take (ss.length : Int).toNat).drop (0 : Int).toNat = tt.map slE := by rw [Int.toNat_natCast, ← htt]; exact List.map_take.symm
  have c5 := fnCoverOf hT (mode := 1) (.inl rfl) (os := os) hk (httl.trans hss) (by omega) httk
  have hTr := covP_rest (D := digP T 1) k tt os (httl.trans hss)
  have hTl := covP_len (D := digP T 1) k tt os
  have hs2 := hsh tt (httl.trans hss)
  generalize covP (digP T 1) k tt os = C2 at *
  obtain ⟨A1, A2⟩ := C
  obtain ⟨B1, B2⟩ := C2
  dsimp only at c4 c5 hCr hTr hCp hs2 hCl hTl
  have h32 : ∀ d ∈ A2 ++ B2, d.length = 32 := fun d hd => by
    have h0 : ∃ tag q, d = digP T 1 tag q := by
      rcases List.mem_append.1 hd with hd | hd
      · exact hCr d hd
      · exact hTr d hd
    obtain ⟨tag, q, rfl⟩ := h0
    unfold digP
    rw [if_neg (by decide)]
    exact sumP_len _
  have m1 : (A1.map slE).length = A1.length := by simp
  have m2 : (B1.map slE).length = B1.length := by simp
  have m3 : (A2.map bys).length = A2.length := by simp
  have m4 : (B2.map bys).length = B2.length := by simp
  have m5 : ((A2 ++ B2).map bys).length = A2.length + B2.length := by simp
  have m6 : (A2 ++ B2).length = A2.length + B2.length := by simp
  repeat (first | refine Run.seq ?_ | refine Run.skip ?_ | refine Run.block ?_)
  refine Run.region ?_
  refine O.move rfl rfl ?_
  refine O.lenLst hE T23 rfl rfl rfl (newest_gl rfl (by simp)) rfl ?_
  refine O.move rfl rfl ?_
  first | refine O.lenN hE T23 rfl rfl rfl (by first | exact newest_pv | exact newest_gl rfl rfl | trivial) lenC rfl ?_ | refine O.lenLst hE T23 rfl rfl rfl (by first | exact newest_pv | exact newest_gl rfl rfl | trivial) rfl ?_
  refine O.cmp rfl rfl rfl (decide_eq_false (show ¬ ((ts.map slE).length : Int) < (ss.length : Int) by omega)) rfl ?_
  refine O.nil ?_
  try refine Run.keep [0, 1, 2, 6, 7, 8, 9, 10, 11, 12, 13, 15, 24, 53, 54, 55, 56, 61] rfl rfl ?_
  repeat (first | refine Run.seq ?_ | refine Run.skip ?_)
  first | refine Run.condT rfl rfl ?_ | refine Run.condF rfl rfl ?_ | refine Run.condT rfl (by assumption) ?_ | refine Run.condF rfl (by assumption) ?_
  refine Run.exit ?_
  repeat (first | refine thenR_exit ?_ | refine roundR_exit ?_ | refine blockR_exit ?_ | refine blockR_pass rfl ?_)
  repeat (first | refine Run.seq ?_ | refine Run.skip ?_ | refine Run.block ?_)
  refine Run.region ?_
  refine O.move rfl rfl ?_
  refine O.move rfl rfl ?_
  first | refine O.lenN hE T23 rfl rfl rfl (by first | exact newest_pv | exact newest_gl rfl rfl | trivial) lenC rfl ?_ | refine O.lenLst hE T23 rfl rfl rfl (by first | exact newest_pv | exact newest_gl rfl rfl | trivial) rfl ?_
  refine O.slice hE T23 rfl T41 rfl rfl (newest_gl rfl (by simp)) rfl rfl rfl (by omega) (by omega) (by show (ss.length : Int) ≤ ((ts.map slE).length : Int); omega) hyt rfl ?_
  refine O.assign rfl rfl ?_
  refine O.nil ?_
  try refine Run.keep [0, 1, 2, 6, 7, 8, 9, 10, 11, 12, 13, 15, 24, 53, 54, 55, 56, 61] rfl rfl ?_
  repeat (first | refine Run.seq ?_ | refine Run.skip ?_ | refine Run.block ?_)
  refine Run.region ?_
  refine O.move rfl rfl ?_
  refine O.move rfl rfl ?_
  refine O.callE c3 rfl (by first | rfl | simp [closed, men3, mens2_app, mens2_ints, mens2, men2, men1, mens1_app, mens1_ints, mens1]) (by first | rfl | simp [d2, ds1_ints, ds1_app, ds1, d1, ds0_app, ds0_ints, ds0, d0]) rfl ?_
  refine O.assign rfl rfl ?_
  refine O.nil ?_
  try refine Run.keep [0, 1, 2, 6, 7, 8, 9, 10, 11, 12, 13, 15, 24, 53, 54, 55, 56, 61] rfl rfl ?_
  repeat (first | refine Run.seq ?_ | refine Run.skip ?_ | refine Run.block ?_)
  refine Run.region ?_
  refine O.move rfl rfl ?_
  refine O.move rfl rfl ?_
  refine O.callE c4 rfl (by first | rfl | simp [closed, men3, mens2_app, mens2_ints, mens2, men2, men1, mens1_app, mens1_ints, mens1]) (by first | rfl | simp [d2, ds1_ints, ds1_app, ds1, d1, ds0_app, ds0_ints, ds0, d0]) rfl ?_
  refine O.move rfl rfl ?_
  refine O.extract rfl rfl rfl ?_
  refine O.extract rfl rfl rfl ?_
  refine O.alloc hE 10 T29 rfl rfl rfl ?_
  refine O.store hE T29 rfl rfl rfl rfl rfl rfl ?_
  refine O.assign rfl rfl ?_
  refine O.nil ?_
  try refine Run.keep [0, 1, 2, 6, 7, 8, 9, 10, 11, 12, 13, 15, 24, 53, 54, 55, 56, 61] rfl rfl ?_
  repeat (first | refine Run.seq ?_ | refine Run.skip ?_ | refine Run.block ?_)
  refine Run.region ?_
  refine O.move rfl rfl ?_
  refine O.move rfl rfl ?_
  refine O.callE c5 rfl (by first | rfl | simp [closed, men3, mens2_app, mens2_ints, mens2, men2, men1, mens1_app, mens1_ints, mens1]) (by first | rfl | simp [d2, ds1_ints, ds1_app, ds1, d1, ds0_app, ds0_ints, ds0, d0]) rfl ?_
  refine O.move rfl rfl ?_
  refine O.extract rfl rfl rfl ?_
  refine O.extract rfl rfl rfl ?_
  refine O.alloc hE 12 T29 rfl rfl rfl ?_
  refine O.store hE T29 rfl rfl rfl rfl rfl rfl ?_
  refine O.assign rfl rfl ?_
  refine O.nil ?_
  try refine Run.keep [0, 1, 2, 6, 7, 8, 9, 10, 11, 12, 13, 15, 24, 53, 54, 55, 56, 61] rfl rfl ?_
  repeat (first | refine Run.seq ?_ | refine Run.skip ?_ | refine Run.block ?_)
  refine Run.draw mixed rfl ?_
  refine D.lit hE 47 [] T27 rfl T33 rfl rfl (xs := []) rfl BxIn.nil rfl rfl rfl rfl rfl ?_
  refine D.field hE L29 rfl rfl rfl rfl ?_
  first | refine D.loadS hE T27 rfl rfl rfl (by rfl) rfl ?_ | refine D.loadE hE T27 rfl rfl (by rfl) rfl ?_ | refine D.load hE T27 rfl rfl rfl rfl ?_
  refine D.appM bys (q := []) (r := A2) hE T27 rfl T33 rfl rfl rfl rfl rfl newest_pv rfl rfl rfl rfl (by simp; omega) (by simp [maxLen]; omega) rfl ?_
  refine D.field hE L29 rfl rfl rfl rfl ?_
  first | refine D.loadS hE T27 rfl rfl rfl (by rfl) rfl ?_ | refine D.loadE hE T27 rfl rfl (by rfl) rfl ?_ | refine D.load hE T27 rfl rfl rfl rfl ?_
  refine D.appM bys (q := A2) (r := B2) hE T27 rfl T33 rfl rfl rfl rfl rfl newest_pv rfl rfl rfl rfl (by simp; omega) (by simp [maxLen]; omega) rfl ?_
  refine D.lenLst hE T27 rfl rfl rfl (newest_gl rfl (by simp)) rfl ?_
  refine D.move rfl rfl ?_
  refine Dr.nil ?_
  refine ⟨rfl, ?_⟩
  try refine Run.keep [0, 1, 2, 6, 7, 8, 9, 10, 11, 12, 13, 15, 24, 53, 54, 55, 56, 61] rfl rfl ?_
  refine Run.pre (s1 := ⟨97, [(6, .pv (.bool false)), (10, .ptr 10 0), (11, .pv (.int .i64 0)), (12, .ptr 12 0), (13, .pv (.int .i64 0)), (53, .pv (.lst 1 ((A2 ++ B2).map bys))), (54, .pv (.int .i64 ((A2 ++ B2).map bys).length)), (55, .pv (.int .i64 0))], [(10, .var [.pv (.lst 3 (A1.map slE)), .pv (.lst 1 (A2.map bys))]), (12, .var [.pv (.lst 3 (B1.map slE)), .pv (.lst 1 (B2.map bys))])]⟩) ?_ ?_
  ·
    refine SLe.by rfl ?_ ?_ rfl rfl <;> repeat (first | exact TmLe.nil | exact BxsLe.nil | refine TmLe.cons (AVle.of_eq rfl) ?_ | refine TmLe.cons (AVle.lst _ _ _ (lstOf_gl rfl (by simp))) ?_ | refine BxsLe.cons rfl (.refl _) ?_)
  repeat (first | refine Run.seq ?_ | refine Run.skip ?_)
  refine Run.block ?_
  refine Run.loopInv (ι := Nat) (fun j => j ≤ (A2 ++ B2).length) (fun j => ⟨97, [(6, .pv (.bool false)), (10, .ptr 10 0), (11, .pv (.int .i64 0)), (12, .ptr 12 0), (13, .pv (.int .i64 0)), (53, .pv (.lst 1 ((A2 ++ B2).map bys))), (54, .pv (.int .i64 ((A2 ++ B2).map bys).length)), (55, .pv (.int .i64 j))], [(10, .var [.pv (.lst 3 (A1.map slE)), .pv (.lst 1 (A2.map bys))]), (12, .var [.pv (.lst 3 (B1.map slE)), .pv (.lst 1 (B2.map bys))])]⟩) (fun j => (A2 ++ B2).length - j) 0 (by omega) ?_ ?_
  ·
    refine SLe.eqv (by repeat (first | exact TmIn.nil | refine TmIn.cons rfl ?_)) (by repeat (first | exact BxIn.nil | refine BxIn.cons rfl ?_)) rfl
  rintro j hj ih2
  by_cases hjl : j < (A2 ++ B2).length
  ·
    have hd32 := h32 _ (List.getElem_mem hjl)
    obtain ⟨d, hd⟩ : ∃ d, (A2 ++ B2)[j] = d := ⟨_, rfl⟩
    rw [hd] at hd32
    have hat : ((A2 ++ B2).map bys)[(j : Int).toNat]? = some (bys d) := by rw [Int.toNat_natCast, List.getElem?_map, List.getElem?_eq_getElem hjl, hd]; rfl
    have hdm : (d.map (PV.int .u8)).length = d.length := by simp
    repeat (first | refine Run.seq ?_ | refine Run.skip ?_ | refine Run.block ?_)
    refine Run.region ?_
    first | refine O.cmp rfl rfl rfl (by first | exact decide_eq_true (by omega) | exact decide_eq_false (by omega)) rfl ?_ | refine O.cmp rfl rfl rfl rfl rfl ?_
    refine O.nil ?_
    try refine Run.keep [0, 1, 2, 6, 7, 8, 9, 10, 11, 12, 13, 15, 24, 53, 54, 55, 56, 61] rfl rfl ?_
    repeat (first | refine Run.seq ?_ | refine Run.skip ?_)
    first | refine Run.condT rfl rfl ?_ | refine Run.condF rfl rfl ?_ | refine Run.condT rfl (by assumption) ?_ | refine Run.condF rfl (by assumption) ?_
    repeat (first | refine Run.seq ?_ | refine Run.skip ?_ | refine Run.block ?_)
    refine Run.region ?_
    refine O.index hE T27 rfl T33 rfl rfl newest_pv rfl (by omega) hat rfl rfl rfl ?_
    first | refine O.loadS hE T33 rfl rfl rfl (by rfl) rfl ?_ | refine O.loadE hE T33 rfl rfl (by rfl) rfl ?_ | refine O.load hE T33 rfl rfl rfl rfl ?_
    refine O.assign rfl rfl ?_
    refine O.nil ?_
    try refine Run.keep [0, 1, 2, 6, 7, 8, 9, 10, 11, 12, 13, 15, 24, 53, 54, 55, 56, 61] rfl rfl ?_
    repeat (first | refine Run.seq ?_ | refine Run.skip ?_ | refine Run.block ?_)
    refine Run.region ?_
    refine O.move rfl rfl ?_
    first | refine O.lenN hE T33 rfl rfl rfl (by first | exact newest_pv | exact newest_gl rfl rfl | trivial) lenC rfl ?_ | refine O.lenLst hE T33 rfl rfl rfl (by first | exact newest_pv | exact newest_gl rfl rfl | trivial) rfl ?_
    first | refine O.cmp rfl rfl rfl (by first | exact decide_eq_true (by omega) | exact decide_eq_false (by omega)) rfl ?_ | refine O.cmp rfl rfl rfl rfl rfl ?_
    refine O.nil ?_
    try refine Run.keep [0, 1, 2, 6, 7, 8, 9, 10, 11, 12, 13, 15, 24, 53, 54, 55, 56, 61] rfl rfl ?_
    repeat (first | refine Run.seq ?_ | refine Run.skip ?_)
    first | refine Run.condT rfl rfl ?_ | refine Run.condF rfl rfl ?_ | refine Run.condT rfl (by assumption) ?_ | refine Run.condF rfl (by assumption) ?_
    repeat (first | refine Run.seq ?_ | refine Run.skip ?_ | refine Run.block ?_)
    refine Run.region ?_
    first | refine O.ar rfl rfl rfl (by exact wrap_i64 (by omega) (by omega)) rfl ?_ | refine O.ar rfl rfl rfl rfl rfl ?_
    refine O.move rfl rfl ?_
    refine O.nil ?_
    try refine Run.keep [0, 1, 2, 6, 7, 8, 9, 10, 11, 12, 13, 15, 24, 53, 54, 55, 56, 61] rfl rfl ?_
    exact ih2 (j + 1) _ (by refine SLe.eqv (by repeat (first | exact TmIn.nil | refine TmIn.cons rfl ?_)) (by repeat (first | exact BxIn.nil | refine BxIn.cons rfl ?_)) rfl) (by omega) (by omega)
  repeat (first | refine Run.seq ?_ | refine Run.skip ?_ | refine Run.block ?_)
  refine Run.region ?_
  first | refine O.cmp rfl rfl rfl (by first | exact decide_eq_true (by omega) | exact decide_eq_false (by omega)) rfl ?_ | refine O.cmp rfl rfl rfl rfl rfl ?_
  refine O.nil ?_
  try refine Run.keep [0, 1, 2, 6, 7, 8, 9, 10, 11, 12, 13, 15, 24, 53, 54, 55, 56, 61] rfl rfl ?_
  repeat (first | refine Run.seq ?_ | refine Run.skip ?_)
  first | refine Run.condT rfl rfl ?_ | refine Run.condF rfl rfl ?_ | refine Run.condT rfl (by assumption) ?_ | refine Run.condF rfl (by assumption) ?_
  refine Run.exit ?_
  repeat (first | refine thenR_exit ?_ | refine roundR_exit ?_ | refine blockR_exit ?_ | refine blockR_pass rfl ?_)
  repeat (first | refine Run.seq ?_ | refine Run.skip ?_ | refine Run.block ?_)
  refine Run.region ?_
  refine O.move rfl rfl ?_
  first | refine O.cmp rfl rfl rfl (by first | exact decide_eq_true (by omega) | exact decide_eq_false (by omega)) rfl ?_ | refine O.cmp rfl rfl rfl rfl rfl ?_
  refine O.move rfl rfl ?_
  first | (refine O.yes rfl rfl (by first | rfl | assumption) ?_; refine O.move rfl rfl ?_) | refine O.no rfl rfl rfl rfl ?_
  first | (refine O.yes rfl rfl (by first | rfl | assumption) ?_; first | refine O.cmp rfl rfl rfl (by first | exact decide_eq_true (by omega) | exact decide_eq_false (by omega)) rfl ?_ | refine O.cmp rfl rfl rfl rfl rfl ?_) | refine O.no rfl rfl rfl rfl ?_
  refine O.pick rfl rfl rfl rfl rfl ?_
  refine O.move rfl rfl ?_
  first | (refine O.yes rfl rfl (by first | rfl | assumption) ?_; refine O.field hE L29 rfl rfl rfl rfl ?_) | refine O.no rfl rfl rfl rfl ?_
  first | (refine O.yes rfl rfl (by first | rfl | assumption) ?_; first | refine O.loadS hE T23 rfl rfl rfl (by rfl) rfl ?_ | refine O.loadE hE T23 rfl rfl (by rfl) rfl ?_ | refine O.load hE T23 rfl rfl rfl rfl ?_) | refine O.no rfl rfl rfl rfl ?_
  first | (refine O.yes rfl rfl (by first | rfl | assumption) ?_; first | refine O.lenN hE T23 rfl rfl rfl (by first | exact newest_pv | exact newest_gl rfl rfl | trivial) lenC rfl ?_ | refine O.lenLst hE T23 rfl rfl rfl (by first | exact newest_pv | exact newest_gl rfl rfl | trivial) rfl ?_) | refine O.no rfl rfl rfl rfl ?_
  first | (refine O.yes rfl rfl (by first | rfl | assumption) ?_; refine O.field hE L29 rfl rfl rfl rfl ?_) | refine O.no rfl rfl rfl rfl ?_
  first | (refine O.yes rfl rfl (by first | rfl | assumption) ?_; first | refine O.loadS hE T23 rfl rfl rfl (by rfl) rfl ?_ | refine O.loadE hE T23 rfl rfl (by rfl) rfl ?_ | refine O.load hE T23 rfl rfl rfl rfl ?_) | refine O.no rfl rfl rfl rfl ?_
  first | (refine O.yes rfl rfl (by first | rfl | assumption) ?_; first | refine O.lenN hE T23 rfl rfl rfl (by first | exact newest_pv | exact newest_gl rfl rfl | trivial) lenC rfl ?_ | refine O.lenLst hE T23 rfl rfl rfl (by first | exact newest_pv | exact newest_gl rfl rfl | trivial) rfl ?_) | refine O.no rfl rfl rfl rfl ?_
  first | (refine O.yes rfl rfl (by first | rfl | assumption) ?_; first | refine O.cmp rfl rfl rfl (by first | exact decide_eq_true (by omega) | exact decide_eq_false (by omega)) rfl ?_ | refine O.cmp rfl rfl rfl rfl rfl ?_) | refine O.no rfl rfl rfl rfl ?_
  refine O.pick rfl rfl rfl rfl rfl ?_
  refine O.move rfl rfl ?_
  first | (refine O.yes rfl rfl (by first | rfl | assumption) ?_; refine O.field hE L29 rfl rfl rfl rfl ?_) | refine O.no rfl rfl rfl rfl ?_
  first | (refine O.yes rfl rfl (by first | rfl | assumption) ?_; first | refine O.loadS hE T27 rfl rfl rfl (by rfl) rfl ?_ | refine O.loadE hE T27 rfl rfl (by rfl) rfl ?_ | refine O.load hE T27 rfl rfl rfl rfl ?_) | refine O.no rfl rfl rfl rfl ?_
  first | (refine O.yes rfl rfl (by first | rfl | assumption) ?_; first | refine O.lenN hE T27 rfl rfl rfl (by first | exact newest_pv | exact newest_gl rfl rfl | trivial) lenC rfl ?_ | refine O.lenLst hE T27 rfl rfl rfl (by first | exact newest_pv | exact newest_gl rfl rfl | trivial) rfl ?_) | refine O.no rfl rfl rfl rfl ?_
  first | (refine O.yes rfl rfl (by first | rfl | assumption) ?_; refine O.field hE L29 rfl rfl rfl rfl ?_) | refine O.no rfl rfl rfl rfl ?_
  first | (refine O.yes rfl rfl (by first | rfl | assumption) ?_; first | refine O.loadS hE T27 rfl rfl rfl (by rfl) rfl ?_ | refine O.loadE hE T27 rfl rfl (by rfl) rfl ?_ | refine O.load hE T27 rfl rfl rfl rfl ?_) | refine O.no rfl rfl rfl rfl ?_
  first | (refine O.yes rfl rfl (by first | rfl | assumption) ?_; first | refine O.lenN hE T27 rfl rfl rfl (by first | exact newest_pv | exact newest_gl rfl rfl | trivial) lenC rfl ?_ | refine O.lenLst hE T27 rfl rfl rfl (by first | exact newest_pv | exact newest_gl rfl rfl | trivial) rfl ?_) | refine O.no rfl rfl rfl rfl ?_
  first | (refine O.yes rfl rfl (by first | rfl | assumption) ?_; first | refine O.cmp rfl rfl rfl (by first | exact decide_eq_true (by omega) | exact decide_eq_false (by omega)) rfl ?_ | refine O.cmp rfl rfl rfl rfl rfl ?_) | refine O.no rfl rfl rfl rfl ?_
  refine O.pick rfl rfl rfl rfl rfl ?_
  refine O.move rfl rfl ?_
  first | (refine O.yes rfl rfl (by first | rfl | assumption) ?_; refine O.field hE L29 rfl rfl rfl rfl ?_) | refine O.no rfl rfl rfl rfl ?_
  first | (refine O.yes rfl rfl (by first | rfl | assumption) ?_; first | refine O.loadS hE T23 rfl rfl rfl (by rfl) rfl ?_ | refine O.loadE hE T23 rfl rfl (by rfl) rfl ?_ | refine O.load hE T23 rfl rfl rfl rfl ?_) | refine O.no rfl rfl rfl rfl ?_
  first | (refine O.yes rfl rfl (by first | rfl | assumption) ?_; first | refine O.lenN hE T23 rfl rfl rfl (by first | exact newest_pv | exact newest_gl rfl rfl | trivial) lenC rfl ?_ | refine O.lenLst hE T23 rfl rfl rfl (by first | exact newest_pv | exact newest_gl rfl rfl | trivial) rfl ?_) | refine O.no rfl rfl rfl rfl ?_
  first | (refine O.yes rfl rfl (by first | rfl | assumption) ?_; refine O.field hE L29 rfl rfl rfl rfl ?_) | refine O.no rfl rfl rfl rfl ?_
  first | (refine O.yes rfl rfl (by first | rfl | assumption) ?_; first | refine O.loadS hE T27 rfl rfl rfl (by rfl) rfl ?_ | refine O.loadE hE T27 rfl rfl (by rfl) rfl ?_ | refine O.load hE T27 rfl rfl rfl rfl ?_) | refine O.no rfl rfl rfl rfl ?_
  first | (refine O.yes rfl rfl (by first | rfl | assumption) ?_; first | refine O.lenN hE T27 rfl rfl rfl (by first | exact newest_pv | exact newest_gl rfl rfl | trivial) lenC rfl ?_ | refine O.lenLst hE T27 rfl rfl rfl (by first | exact newest_pv | exact newest_gl rfl rfl | trivial) rfl ?_) | refine O.no rfl rfl rfl rfl ?_
  first | (refine O.yes rfl rfl (by first | rfl | assumption) ?_; first | refine O.ar rfl rfl rfl (by exact wrap_i64 (by omega) (by omega)) rfl ?_ | refine O.ar rfl rfl rfl rfl rfl ?_) | refine O.no rfl rfl rfl rfl ?_
  first | (refine O.yes rfl rfl (by first | rfl | assumption) ?_; first | refine O.cmp rfl rfl rfl (by first | exact decide_eq_true (by omega) | exact decide_eq_false (by omega)) rfl ?_ | refine O.cmp rfl rfl rfl rfl rfl ?_) | refine O.no rfl rfl rfl rfl ?_
  refine O.pick rfl rfl rfl rfl rfl ?_
  refine O.assign rfl rfl ?_
  refine O.nil ?_
  try refine Run.keep [0, 1, 2, 6, 7, 8, 9, 10, 11, 12, 13, 15, 24, 53, 54, 55, 56, 61] rfl rfl ?_
  (repeat (first | refine Run.seq ?_ | refine Run.skip ?_)); (try refine Run.ret ?_); first | exact Ends.flat hE (.inr rfl) rfl rfl (AVle.of_eq rfl) rfl | exact Ends.flat hE (.inl rfl) rfl rfl (AVle.of_eq rfl) rfl
end Go.Proofs.YtokjeodlcilfpaaDoor.Vm
