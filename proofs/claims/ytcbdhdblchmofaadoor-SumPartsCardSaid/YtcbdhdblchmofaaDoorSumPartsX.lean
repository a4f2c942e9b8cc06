/- SumParts: the walk of the law's own function. Conditions: the table of steps, as the program lays it. -/
import Derived.Test.YtcbdhdblchmofaaDoorSumPartsW
namespace Go.Proofs.YtcbdhdblchmofaaDoor.Vm
open Go Go.RowKit
set_option linter.unusedVariables false
set_option linter.unusedSimpArgs false
attribute [local irreducible] Ops Dr Run feedP endP sumP macP begin0
theorem fnSumParts {b0 : List Int} (hb0 : (b0.length : Int) ≤ 9223372036854775807) (cut more : Int) : FnC (En Tryd.prog gK) 5 [.pv (bys b0), .pv (.int .i64 cut), .pv (.int .i64 more)] (.pv (.bool true)) [] := by
  have hE := EnOk gK
  obtain ⟨T, hT⟩ : ∃ T, Feeds gK T ∧ T = turnP stepsL := ⟨_, feedsK, rfl⟩
  obtain ⟨M, hM⟩ : ∃ M : Int, (if (300 : Int) < (b0.length : Int) then 300 else (b0.length : Int)) = M := ⟨_, rfl⟩
  have hM0 : 0 ≤ M ∧ M ≤ 300 ∧ M ≤ b0.length := by split at hM <;> omega
  obtain ⟨b, hb⟩ : ∃ b, b0.take M.toNat = b := ⟨_, rfl⟩
  have hbl : (b.length : Int) = M := by rw [← hb, List.length_take]; omega
  have hys : ((b0.map (PV.int .u8)).take M.toNat).drop (0 : Int).toNat = b.map (PV.int .u8) := by rw [← hb, List.map_take]; rfl
  have hmap0 : (b0.map (PV.int .u8)).length = b0.length := by simp
  have hmap : (b.map (PV.int .u8)).length = b.length := by simp
  have p1 := fnPick (g := gK) (a := cut) (m := (b.length : Int) + 1) (by omega) (by omega)
  have hi0 := Int.emod_nonneg cut (show (b.length : Int) + 1 ≠ 0 by omega)
  have hi1 := Int.emod_lt_of_pos cut (show 0 < (b.length : Int) + 1 by omega)
  generalize cut % ((b.length : Int) + 1) = i at *
  have p2 := fnPick (g := gK) (a := more) (m := (b.length : Int) - i + 1) (by omega) (by omega)
  have hk0 := Int.emod_nonneg more (show (b.length : Int) - i + 1 ≠ 0 by omega)
  have hk1 := Int.emod_lt_of_pos more (show 0 < (b.length : Int) - i + 1 by omega)
  generalize more % ((b.length : Int) - i + 1) = k at *
  obtain ⟨a1, ha1⟩ : ∃ a, b.take i.toNat = a := ⟨_, rfl⟩
  obtain ⟨a2, ha2⟩ : ∃ a, (b.take (i + k).toNat).drop i.toNat = a := ⟨_, rfl⟩
  obtain ⟨a3, ha3⟩ : ∃ a, b.drop (i + k).toNat = a := ⟨_, rfl⟩
  have hcat : a1 ++ a2 ++ a3 = b := by
    rw [← ha1, ← ha2, ← ha3]
    have e : b.take i.toNat ++ (b.take (i + k).toNat).drop i.toNat = b.take (i + k).toNat := by
      have : b.take i.toNat = (b.take (i + k).toNat).take i.toNat := by rw [List.take_take]; congr 1; omega
      rw [this, List.take_append_drop]
    rw [e, List.take_append_drop]
  have y1 : ((b.map (PV.int .u8)).take i.toNat).drop (0 : Int).toNat = a1.map (PV.int .u8) := by rw [← ha1, List.map_take]; rfl
  have y2 : ((b.map (PV.int .u8)).take (i + k).toNat).drop i.toNat = a2.map (PV.int .u8) := by rw [← ha2, List.map_drop, List.map_take]
  have y3 : ((b.map (PV.int .u8)).take ((b.map (PV.int .u8)).length : Int).toNat).drop (i + k).toNat = a3.map (PV.int .u8) := by rw [← ha3, List.map_drop, Int.toNat_natCast, List.take_length]
  have c0 := fnBegin (g := gK)
  obtain ⟨Z, hZl, hZ⟩ : ∃ Z : List AV, Z.length = 74 ∧ (TI.zero ((tyL 39).getD ⟨.oth, 0, 0, []⟩)).map AV.pv = Z := ⟨_, rfl, rfl⟩
  have bfit := begin_fit
  obtain ⟨H0, B0, N0, L0, hb00⟩ : ∃ H B N L, begin0 = ⟨H, B, N, L⟩ := ⟨begin0.H, begin0.B, begin0.N, begin0.L, rfl⟩
  have hL0 : L0 = 0 := by have : begin0.L = 0 := by unfold begin0; rfl
                          rw [hb00] at this; exact this
  have c0' : FnC (En Tryd.prog gK) 18 [] (.agg (strm H0 B0 N0 L0)) [] := by rw [hb00] at c0; exact c0
  have b8 : H0.length = 8 := by have := bfit.1.1; rw [hb00] at this; exact this
  have b64 : B0.length = 64 := by have := bfit.1.2.1; rw [hb00] at this; exact this
  refine FnC.of Tryd.func5 rfl rfl rfl rfl ?_
  repeat (first | refine Run.seq ?_ | refine Run.skip ?_ | refine Run.block ?_)
  refine Run.region ?_
  refine O.assign rfl rfl ?_
  refine O.nil ?_
  try refine Run.keep [0, 1, 2, 6, 7, 8, 9, 11, 12, 13, 14, 15, 16, 17, 48, 49, 50, 51, 79] rfl rfl ?_
  repeat (first | refine Run.seq ?_ | refine Run.skip ?_ | refine Run.block ?_)
  refine Run.region ?_
  refine O.move rfl rfl ?_
  refine O.move rfl rfl ?_
  first | refine O.lenN hE T27 rfl rfl rfl (by first | exact newest_pv | exact newest_gl rfl rfl | trivial) lenC rfl ?_ | refine O.lenLst hE T27 rfl rfl rfl (by first | exact newest_pv | exact newest_gl rfl rfl | trivial) rfl ?_
  refine O.minI rfl rfl hM rfl ?_
  refine O.slice hE T27 rfl T5 rfl rfl newest_pv rfl rfl rfl (by omega) (by omega) (by rw [hmap0]; omega) hys rfl ?_
  refine O.assign rfl rfl ?_
  refine O.nil ?_
  try refine Run.keep [0, 1, 2, 6, 7, 8, 9, 11, 12, 13, 14, 15, 16, 17, 48, 49, 50, 51, 79] rfl rfl ?_
  repeat (first | refine Run.seq ?_ | refine Run.skip ?_ | refine Run.block ?_)
  refine Run.region ?_
  refine O.move rfl rfl ?_
  refine O.move rfl rfl ?_
  first | refine O.lenN hE T27 rfl rfl rfl (by first | exact newest_pv | exact newest_gl rfl rfl | trivial) lenC rfl ?_ | refine O.lenLst hE T27 rfl rfl rfl (by first | exact newest_pv | exact newest_gl rfl rfl | trivial) rfl ?_
  first | refine O.ar rfl rfl rfl (by exact wrap_i64 (by omega) (by omega)) rfl ?_ | refine O.ar rfl rfl rfl rfl rfl ?_
  refine O.callE p1 rfl (by first | rfl | simp [closed, men3, mens2_app, mens2_ints, mens2, men2, men1, mens1_app, mens1_ints, mens1]) (by first | rfl | simp [d2, ds1_ints, ds1_app, ds1, d1, ds0_app, ds0_ints, ds0, d0]) rfl ?_
  refine O.assign rfl rfl ?_
  refine O.nil ?_
  try refine Run.keep [0, 1, 2, 6, 7, 8, 9, 11, 12, 13, 14, 15, 16, 17, 48, 49, 50, 51, 79] rfl rfl ?_
  repeat (first | refine Run.seq ?_ | refine Run.skip ?_ | refine Run.block ?_)
  refine Run.region ?_
  refine O.move rfl rfl ?_
  refine O.move rfl rfl ?_
  refine O.move rfl rfl ?_
  first | refine O.lenN hE T27 rfl rfl rfl (by first | exact newest_pv | exact newest_gl rfl rfl | trivial) lenC rfl ?_ | refine O.lenLst hE T27 rfl rfl rfl (by first | exact newest_pv | exact newest_gl rfl rfl | trivial) rfl ?_
  refine O.move rfl rfl ?_
  first | refine O.ar rfl rfl rfl (by exact wrap_i64 (by omega) (by omega)) rfl ?_ | refine O.ar rfl rfl rfl rfl rfl ?_
  first | refine O.ar rfl rfl rfl (by exact wrap_i64 (by omega) (by omega)) rfl ?_ | refine O.ar rfl rfl rfl rfl rfl ?_
  refine O.callE p2 rfl (by first | rfl | simp [closed, men3, mens2_app, mens2_ints, mens2, men2, men1, mens1_app, mens1_ints, mens1]) (by first | rfl | simp [d2, ds1_ints, ds1_app, ds1, d1, ds0_app, ds0_ints, ds0, d0]) rfl ?_
  first | refine O.ar rfl rfl rfl (by exact wrap_i64 (by omega) (by omega)) rfl ?_ | refine O.ar rfl rfl rfl rfl rfl ?_
  refine O.assign rfl rfl ?_
  refine O.nil ?_
  try refine Run.keep [0, 1, 2, 6, 7, 8, 9, 11, 12, 13, 14, 15, 16, 17, 48, 49, 50, 51, 79] rfl rfl ?_
  repeat (first | refine Run.seq ?_ | refine Run.skip ?_ | refine Run.block ?_)
  refine Run.region ?_
  refine O.callE (c0') rfl (by first | rfl | simp [closed, men3, mens2_app, mens2_ints, mens2, men2, men1, mens1_app, mens1_ints, mens1]) (by first | rfl | simp [d2, ds1_ints, ds1_app, ds1, d1, ds0_app, ds0_ints, ds0, d0]) rfl ?_
  refine O.allocS hE 9 T39 hZ rfl rfl ?_
  first | refine O.storeS hE T39 rfl rfl (by first | rfl | exact cells_ones (by simp [ones_app, ones_ints, ones, AV.one, PV.one])) rfl (by first | rfl | simp [ints_len, *]) (by simp [ints_len, *] <;> omega) (by first | exact setAt_all _ _ (by simp [ints_len, *]) | exact setAt_all _ _ (by unfold strm; simp [ints_len, *])) ?_ | refine O.store hE T39 rfl rfl rfl rfl rfl rfl ?_
  refine O.nil ?_
  try refine Run.keep [0, 1, 2, 6, 7, 8, 9, 11, 12, 13, 14, 15, 16, 17, 48, 49, 50, 51, 79] rfl rfl ?_
  clear hZ
  repeat (first | refine Run.seq ?_ | refine Run.skip ?_ | refine Run.block ?_)
  refine Run.draw mixed rfl ?_
  refine D.move rfl rfl ?_
  refine D.move rfl rfl ?_
  refine D.sliceP hE T27 rfl T5 rfl rfl rfl rfl (by omega) (by omega) (by rw [hmap]; omega) y1 rfl ?_
  refine D.move rfl rfl ?_
  refine D.move rfl rfl ?_
  refine D.move rfl rfl ?_
  refine D.sliceP hE T27 rfl T5 rfl rfl rfl rfl (by omega) (by omega) (by rw [hmap]; omega) y2 rfl ?_
  refine D.move rfl rfl ?_
  refine D.move rfl rfl ?_
  refine D.sliceP hE T27 rfl T5 rfl rfl rfl rfl (by omega) (by rw [hmap]; omega) (by omega) y3 rfl ?_
  refine D.litV hE T41 rfl T27 rfl rfl rfl rfl rfl rfl rfl ?_
  refine D.lenLst hE T41 rfl rfl rfl (by first | exact newest_pv | exact newest_gl rfl rfl | trivial) rfl ?_
  refine D.move rfl rfl ?_
  refine Dr.nil ?_
  refine ⟨rfl, ?_⟩
  try refine Run.keep [0, 1, 2, 6, 7, 8, 9, 11, 12, 13, 14, 15, 16, 17, 48, 49, 50, 51, 79] rfl rfl ?_
  obtain ⟨hT, hTe⟩ := hT
  have hacc : ∀ k : Nat, k < 3 → ∃ p : List Int, ([bys a1, bys a2, bys a3] : List PV)[(k : Int).toNat]? = some (bys p) ∧ (([a1, a2, a3] : List (List Int)).take (k + 1)).flatten = (([a1, a2, a3] : List (List Int)).take k).flatten ++ p := by
    intro k hk
    match k, hk with
    | 0, _ => exact ⟨a1, rfl, by simp⟩
    | 1, _ => exact ⟨a2, rfl, by simp⟩
    | 2, _ => exact ⟨a3, rfl, by simp⟩
  have hle : ∀ k : Nat, ((([a1, a2, a3] : List (List Int)).take k).flatten).length ≤ 300 := by
    intro k
    have h1 : ((([a1, a2, a3] : List (List Int)).take k).flatten).length ≤ (([a1, a2, a3] : List (List Int)).flatten).length := by
      rw [← List.take_append_drop k [a1, a2, a3], List.flatten_append, List.length_append]
      simp only [List.take_append_drop]
      omega
    have h2 : (([a1, a2, a3] : List (List Int)).flatten) = b := by simpa using hcat
    rw [h2] at h1
    omega
  repeat (first | refine Run.seq ?_ | refine Run.skip ?_)
  refine Run.block ?_
  refine Run.loopInv (ι := Nat × Sm) (fun p => p.1 ≤ 3 ∧ p.2.fit ∧ p.2 = feedP T begin0 ((([a1, a2, a3] : List (List Int)).take p.1).flatten) ∧ p.2.L = ((([a1, a2, a3] : List (List Int)).take p.1).flatten).length)
    (fun p => ⟨113, [(0, .pv (bys b)), (6, .pv (.bool false)), (9, .ptr 9 0), (48, .pv (.lst 1 [bys a1, bys a2, bys a3])), (49, .pv (.int .i64 3)), (50, .pv (.int .i64 p.1))], [(9, .var (strm p.2.H p.2.B p.2.N p.2.L))]⟩) (fun p => 3 - p.1) (0, ⟨H0, B0, N0, L0⟩) ⟨by omega, hb00 ▸ bfit, ?_, ?_⟩ ?_ ?_
  · show _ = feedP T begin0 []
    rw [feedP_def, hb00]
    simp
  · dsimp only; rw [hL0]; rfl
  ·
    refine SLe.eqv (by repeat (first | exact TmIn.nil | refine TmIn.cons rfl ?_)) (by repeat (first | exact BxIn.nil | refine BxIn.cons rfl ?_)) rfl
  rintro ⟨k, H, B, N, L⟩ ⟨hk, hfit, hs, hL⟩ ih
  dsimp only at hk hfit hs hL ih ⊢
  have hH : H.length = 8 := hfit.1.1
  have hB : B.length = 64 := hfit.1.2.1
  have hLL : 0 ≤ L ∧ L ≤ 300 := by have := hle k; omega
  by_cases hlt : k < 3
  ·
    obtain ⟨p, hp1, hp2⟩ := hacc k hlt
    have hpl : (p.length : Int) ≤ 300 := by have h1 := hle (k + 1); rw [hp2, List.length_append] at h1; omega
    have hpm : (p.map (PV.int .u8)).length = p.length := by simp
    have c1 := fnAdd hT hfit (b := p) (by show L + _ ≤ _; omega)
    obtain ⟨f1, f2⟩ := feedP_fit hT.1 hfit (b := p) (by show L + _ ≤ _; omega)
    have happ : feedP T ⟨H, B, N, L⟩ p = feedP T begin0 ((([a1, a2, a3] : List (List Int)).take (k + 1)).flatten) := by rw [hs, feedP_app, hp2]
    generalize feedP T ⟨H, B, N, L⟩ p = s' at *
    obtain ⟨H', B', N', L'⟩ := s'
    have hH' : H'.length = 8 := f1.1.1
    have hB' : B'.length = 64 := f1.1.2.1
    have hN' : N' = L' % 64 := f1.2.2.2.1
    have f2 : L' = L + p.length := f2
    have c1 : FnC (En Tryd.prog gK) 19 [.agg (strm H B N L), .pv (bys p)] (.tup [.agg (strm H' B' N' L'), .pv (.int .i64 0)]) [] := c1
    obtain ⟨Z, hZl, hZ⟩ : ∃ Z : List AV, Z.length = 74 ∧ (TI.zero ((tyL 39).getD ⟨.oth, 0, 0, []⟩)).map AV.pv = Z := ⟨_, rfl, rfl⟩
    repeat (first | refine Run.seq ?_ | refine Run.skip ?_ | refine Run.block ?_)
    refine Run.region ?_
    first | refine O.cmp rfl rfl rfl (by first | exact decide_eq_true (by omega) | exact decide_eq_false (by omega)) rfl ?_ | refine O.cmp rfl rfl rfl rfl rfl ?_
    refine O.nil ?_
    try refine Run.keep [0, 1, 2, 6, 7, 8, 9, 11, 12, 13, 14, 15, 16, 17, 48, 49, 50, 51, 79] rfl rfl ?_
    repeat (first | refine Run.seq ?_ | refine Run.skip ?_)
    first | refine Run.condT rfl rfl ?_ | refine Run.condF rfl rfl ?_ | refine Run.condT rfl (by assumption) ?_ | refine Run.condF rfl (by assumption) ?_
    repeat (first | refine Run.seq ?_ | refine Run.skip ?_ | refine Run.block ?_)
    refine Run.region ?_
    refine O.index hE T41 rfl T27 rfl rfl (by first | exact newest_pv | exact newest_gl rfl rfl | trivial) rfl (by omega) (by assumption) rfl rfl rfl ?_
    first | refine O.loadS hE T27 rfl rfl rfl (by first | exact st73 (by assumption) (by assumption) | exact st72 (by assumption) (by assumption)) rfl ?_ | refine O.loadE hE T27 rfl rfl (by rfl) rfl ?_ | refine O.load hE T27 rfl rfl rfl rfl ?_
    refine O.assign rfl rfl ?_
    refine O.nil ?_
    try refine Run.keep [0, 1, 2, 6, 7, 8, 9, 11, 12, 13, 14, 15, 16, 17, 48, 49, 50, 51, 79] rfl rfl ?_
    repeat (first | refine Run.seq ?_ | refine Run.skip ?_ | refine Run.block ?_)
    refine Run.region ?_
    first | refine O.loadA hE T39 rfl rfl rfl (by first | exact tkS (by assumption) (by assumption) | exact ints_take (by simp [*])) (by simp [ints_len, *]) rfl ?_ | refine O.load hE T39 rfl rfl rfl rfl ?_
    refine O.move rfl rfl ?_
    refine O.callE c1 rfl (by first | rfl | simp [closed, men3, mens2_app, mens2_ints, mens2, men2, men1, mens1_app, mens1_ints, mens1]) (by first | rfl | simp [d2, ds1_ints, ds1_app, ds1, d1, ds0_app, ds0_ints, ds0, d0]) rfl ?_
    refine O.move rfl rfl ?_
    refine O.extract rfl rfl rfl ?_
    refine O.extract rfl rfl rfl ?_
    refine O.allocS hE 12 T39 hZ rfl rfl ?_
    first | refine O.storeS hE T39 rfl rfl (by first | rfl | exact cells_ones (by simp [ones_app, ones_ints, ones, AV.one, PV.one])) rfl (by first | rfl | simp [ints_len, *]) (by simp [ints_len, *] <;> omega) (by first | exact setAt_all _ _ (by simp [ints_len, *]) | exact setAt_all _ _ (by unfold strm; simp [ints_len, *])) ?_ | refine O.store hE T39 rfl rfl rfl rfl rfl rfl ?_
    refine O.assign rfl rfl ?_
    refine O.nil ?_
    try refine Run.keep [0, 1, 2, 6, 7, 8, 9, 11, 12, 13, 14, 15, 16, 17, 48, 49, 50, 51, 79] rfl rfl ?_
    repeat (first | refine Run.seq ?_ | refine Run.skip ?_ | refine Run.block ?_)
    refine Run.region ?_
    refine O.move rfl rfl ?_
    first | refine O.cmp rfl rfl rfl (by first | exact decide_eq_true (by omega) | exact decide_eq_false (by omega)) rfl ?_ | refine O.cmp rfl rfl rfl rfl rfl ?_
    refine O.move rfl rfl ?_
    first | (refine O.yes rfl rfl (by first | rfl | assumption) ?_; refine O.field hE L39 rfl rfl rfl rfl ?_) | refine O.no rfl rfl rfl rfl ?_
    first | (refine O.yes rfl rfl (by first | rfl | assumption) ?_; first | refine O.loadS hE T3 rfl rfl rfl (by first | exact st73 (by assumption) (by assumption) | exact st72 (by assumption) (by assumption)) rfl ?_ | refine O.loadE hE T3 rfl rfl (by rfl) rfl ?_ | refine O.load hE T3 rfl rfl rfl rfl ?_) | refine O.no rfl rfl rfl rfl ?_
    first | (refine O.yes rfl rfl (by first | rfl | assumption) ?_; refine O.field hE L39 rfl rfl rfl rfl ?_) | refine O.no rfl rfl rfl rfl ?_
    first | (refine O.yes rfl rfl (by first | rfl | assumption) ?_; first | refine O.loadS hE T3 rfl rfl rfl (by first | exact st73 (by assumption) (by assumption) | exact st72 (by assumption) (by assumption)) rfl ?_ | refine O.loadE hE T3 rfl rfl (by rfl) rfl ?_ | refine O.load hE T3 rfl rfl rfl rfl ?_) | refine O.no rfl rfl rfl rfl ?_
    first | (refine O.yes rfl rfl (by first | rfl | assumption) ?_; refine O.move rfl rfl ?_) | refine O.no rfl rfl rfl rfl ?_
    first | (refine O.yes rfl rfl (by first | rfl | assumption) ?_; first | refine O.lenN hE T27 rfl rfl rfl (by first | exact newest_pv | exact newest_gl rfl rfl | trivial) lenC rfl ?_ | refine O.lenLst hE T27 rfl rfl rfl (by first | exact newest_pv | exact newest_gl rfl rfl | trivial) rfl ?_) | refine O.no rfl rfl rfl rfl ?_
    first | (refine O.yes rfl rfl (by first | rfl | assumption) ?_; first | refine O.ar rfl rfl rfl (by exact wrap_i64 (by omega) (by omega)) rfl ?_ | refine O.ar rfl rfl rfl rfl rfl ?_) | refine O.no rfl rfl rfl rfl ?_
    first | (refine O.yes rfl rfl (by first | rfl | assumption) ?_; first | refine O.cmp rfl rfl rfl (by first | exact decide_eq_true (by omega) | exact decide_eq_false (by omega)) rfl ?_ | refine O.cmp rfl rfl rfl rfl rfl ?_) | refine O.no rfl rfl rfl rfl ?_
    refine O.pick rfl rfl rfl rfl rfl ?_
    refine O.move rfl rfl ?_
    first | (refine O.yes rfl rfl (by first | rfl | assumption) ?_; refine O.field hE L39 rfl rfl rfl rfl ?_) | refine O.no rfl rfl rfl rfl ?_
    first | (refine O.yes rfl rfl (by first | rfl | assumption) ?_; first | refine O.loadS hE T3 rfl rfl rfl (by first | exact st73 (by assumption) (by assumption) | exact st72 (by assumption) (by assumption)) rfl ?_ | refine O.loadE hE T3 rfl rfl (by rfl) rfl ?_ | refine O.load hE T3 rfl rfl rfl rfl ?_) | refine O.no rfl rfl rfl rfl ?_
    first | (refine O.yes rfl rfl (by first | rfl | assumption) ?_; refine O.field hE L39 rfl rfl rfl rfl ?_) | refine O.no rfl rfl rfl rfl ?_
    first | (refine O.yes rfl rfl (by first | rfl | assumption) ?_; first | refine O.loadS hE T3 rfl rfl rfl (by first | exact st73 (by assumption) (by assumption) | exact st72 (by assumption) (by assumption)) rfl ?_ | refine O.loadE hE T3 rfl rfl (by rfl) rfl ?_ | refine O.load hE T3 rfl rfl rfl rfl ?_) | refine O.no rfl rfl rfl rfl ?_
    first | (refine O.yes rfl rfl (by first | rfl | assumption) ?_; first | refine O.remE rfl rfl (by omega) (by omega) rfl ?_ | refine O.rem rfl rfl (by omega) rfl ?_) | refine O.no rfl rfl rfl rfl ?_
    first | (refine O.yes rfl rfl (by first | rfl | assumption) ?_; first | refine O.cmp rfl rfl rfl (by first | exact decide_eq_true (by omega) | exact decide_eq_false (by omega)) rfl ?_ | refine O.cmp rfl rfl rfl rfl rfl ?_) | refine O.no rfl rfl rfl rfl ?_
    refine O.pick rfl rfl rfl rfl rfl ?_
    refine O.nil ?_
    try refine Run.keep [0, 1, 2, 6, 7, 8, 9, 11, 12, 13, 14, 15, 16, 17, 48, 49, 50, 51, 79] rfl rfl ?_
    repeat (first | refine Run.seq ?_ | refine Run.skip ?_)
    first | refine Run.condT rfl rfl ?_ | refine Run.condF rfl rfl ?_ | refine Run.condT rfl (by assumption) ?_ | refine Run.condF rfl (by assumption) ?_
    repeat (first | refine Run.seq ?_ | refine Run.skip ?_ | refine Run.block ?_)
    refine Run.region ?_
    first | refine O.loadA hE T39 rfl rfl rfl (by first | exact tkS (by assumption) (by assumption) | exact ints_take (by simp [*])) (by simp [ints_len, *]) rfl ?_ | refine O.load hE T39 rfl rfl rfl rfl ?_
    first | refine O.storeS hE T39 rfl rfl (by first | rfl | exact cells_ones (by simp [ones_app, ones_ints, ones, AV.one, PV.one])) rfl (by first | rfl | simp [ints_len, *]) (by simp [ints_len, *] <;> omega) (by first | exact setAt_all _ _ (by simp [ints_len, *]) | exact setAt_all _ _ (by unfold strm; simp [ints_len, *])) ?_ | refine O.store hE T39 rfl rfl rfl rfl rfl rfl ?_
    refine O.nil ?_
    try refine Run.keep [0, 1, 2, 6, 7, 8, 9, 11, 12, 13, 14, 15, 16, 17, 48, 49, 50, 51, 79] rfl rfl ?_
    repeat (first | refine Run.seq ?_ | refine Run.skip ?_ | refine Run.block ?_)
    refine Run.region ?_
    first | refine O.ar rfl rfl rfl (by exact wrap_i64 (by omega) (by omega)) rfl ?_ | refine O.ar rfl rfl rfl rfl rfl ?_
    refine O.move rfl rfl ?_
    refine O.nil ?_
    try refine Run.keep [0, 1, 2, 6, 7, 8, 9, 11, 12, 13, 14, 15, 16, 17, 48, 49, 50, 51, 79] rfl rfl ?_
    refine ih (k + 1, ⟨H', B', N', L'⟩) _ (SLe.drop (by repeat (first | exact TmIn.nil | refine TmIn.cons rfl ?_)) (by repeat (first | exact BxIn.nil | refine BxIn.cons rfl ?_)) rfl (by simp [mbx, menB, mens2_app, mens2_ints, mens2, men2, men1])) ⟨by dsimp only; omega, f1, happ, ?_⟩ (by dsimp only; omega)
    dsimp only
    rw [hp2, List.length_append, f2, hL]
    omega
  obtain rfl : k = 3 := by omega
  have hfb : (([a1, a2, a3] : List (List Int)).take 3).flatten = b := by simpa using hcat
  rw [hfb] at hs hL
  have c2 := fnAdd hT bfit (b := b) (by rw [hb00]; show L0 + _ ≤ _; omega)
  rw [← hs, hb00] at c2
  have c2 : FnC (En Tryd.prog gK) 19 [.agg (strm H0 B0 N0 L0), .pv (bys b)] (.tup [.agg (strm H B N L), .pv (.int .i64 0)]) [] := c2
  have c3 := fnEndS hT hfit
  have c4 := fnSum hT (b := b) (by omega)
  have hse : sumP T b = endP T ⟨H, B, N, L⟩ := by rw [hs]; unfold sumP; rfl
  have hRl : (endP T ⟨H, B, N, L⟩).length = 32 := endP_len _
  rw [hse] at c4
  generalize endP T ⟨H, B, N, L⟩ = R at *
  have c3 : FnC (En Tryd.prog gK) 20 [.agg (strm H B N L)] (.tup [.agg (ints .u8 R), .pv (.int .i64 0)]) [] := c3
  have c5 := fnTells
  obtain ⟨Z, hZl, hZ⟩ : ∃ Z : List AV, Z.length = 74 ∧ (TI.zero ((tyL 39).getD ⟨.oth, 0, 0, []⟩)).map AV.pv = Z := ⟨_, rfl, rfl⟩
  repeat (first | refine Run.seq ?_ | refine Run.skip ?_ | refine Run.block ?_)
  refine Run.region ?_
  first | refine O.cmp rfl rfl rfl (by first | exact decide_eq_true (by omega) | exact decide_eq_false (by omega)) rfl ?_ | refine O.cmp rfl rfl rfl rfl rfl ?_
  refine O.nil ?_
  try refine Run.keep [0, 1, 2, 6, 7, 8, 9, 11, 12, 13, 14, 15, 16, 17, 48, 49, 50, 51, 79] rfl rfl ?_
  repeat (first | refine Run.seq ?_ | refine Run.skip ?_)
  first | refine Run.condT rfl rfl ?_ | refine Run.condF rfl rfl ?_ | refine Run.condT rfl (by assumption) ?_ | refine Run.condF rfl (by assumption) ?_
  refine Run.exit ?_
  repeat (first | refine thenR_exit ?_ | refine roundR_exit ?_ | refine blockR_exit ?_ | refine blockR_pass rfl ?_)
  repeat (first | refine Run.seq ?_ | refine Run.skip ?_ | refine Run.block ?_)
  refine Run.region ?_
  refine O.callE (c0') rfl (by first | rfl | simp [closed, men3, mens2_app, mens2_ints, mens2, men2, men1, mens1_app, mens1_ints, mens1]) (by first | rfl | simp [d2, ds1_ints, ds1_app, ds1, d1, ds0_app, ds0_ints, ds0, d0]) rfl ?_
  refine O.move rfl rfl ?_
  refine O.callE c2 rfl (by first | rfl | simp [closed, men3, mens2_app, mens2_ints, mens2, men2, men1, mens1_app, mens1_ints, mens1]) (by first | rfl | simp [d2, ds1_ints, ds1_app, ds1, d1, ds0_app, ds0_ints, ds0, d0]) rfl ?_
  refine O.move rfl rfl ?_
  refine O.extract rfl rfl rfl ?_
  refine O.extract rfl rfl rfl ?_
  refine O.allocS hE 14 T39 hZ rfl rfl ?_
  first | refine O.storeS hE T39 rfl rfl (by first | rfl | exact cells_ones (by simp [ones_app, ones_ints, ones, AV.one, PV.one])) rfl (by first | rfl | simp [ints_len, *]) (by simp [ints_len, *] <;> omega) (by first | exact setAt_all _ _ (by simp [ints_len, *]) | exact setAt_all _ _ (by unfold strm; simp [ints_len, *])) ?_ | refine O.store hE T39 rfl rfl rfl rfl rfl rfl ?_
  refine O.assign rfl rfl ?_
  refine O.nil ?_
  try refine Run.keep [0, 1, 2, 6, 7, 8, 9, 11, 12, 13, 14, 15, 16, 17, 48, 49, 50, 51, 79] rfl rfl ?_
  repeat (first | refine Run.seq ?_ | refine Run.skip ?_ | refine Run.block ?_)
  refine Run.region ?_
  first | refine O.loadA hE T39 rfl rfl rfl (by first | exact tkS (by assumption) (by assumption) | exact ints_take (by simp [*])) (by simp [ints_len, *]) rfl ?_ | refine O.load hE T39 rfl rfl rfl rfl ?_
  refine O.callE c3 rfl (by first | rfl | simp [closed, men3, mens2_app, mens2_ints, mens2, men2, men1, mens1_app, mens1_ints, mens1]) (by first | rfl | simp [d2, ds1_ints, ds1_app, ds1, d1, ds0_app, ds0_ints, ds0, d0]) rfl ?_
  refine O.move rfl rfl ?_
  refine O.extract rfl rfl rfl ?_
  refine O.extract rfl rfl rfl ?_
  first | refine O.allocS hE 16 T25 ints_zero rfl rfl ?_ | refine O.alloc hE 16 T25 rfl rfl rfl ?_
  first | refine O.storeS hE T25 rfl rfl (by first | rfl | exact cells_ones (by simp [ones_app, ones_ints, ones, AV.one, PV.one])) rfl (by first | rfl | simp [ints_len, *]) (by simp [ints_len, *] <;> omega) (by first | exact setAt_all _ _ (by simp [ints_len, *]) | exact setAt_all _ _ (by unfold strm; simp [ints_len, *])) ?_ | refine O.store hE T25 rfl rfl rfl rfl rfl rfl ?_
  refine O.assign rfl rfl ?_
  refine O.nil ?_
  try refine Run.keep [0, 1, 2, 6, 7, 8, 9, 11, 12, 13, 14, 15, 16, 17, 48, 49, 50, 51, 79] rfl rfl ?_
  repeat (first | refine Run.seq ?_ | refine Run.skip ?_ | refine Run.block ?_)
  refine Run.draw mixed rfl ?_
  refine D.move rfl rfl ?_
  first | refine D.cmp rfl rfl rfl (by first | exact decide_eq_true (by omega) | exact decide_eq_false (by omega)) rfl ?_ | refine D.cmp rfl rfl rfl rfl rfl ?_
  refine D.move rfl rfl ?_
  first | (refine D.yes rfl rfl (by first | rfl | assumption) ?_; refine D.move rfl rfl ?_) | refine D.no rfl rfl rfl rfl ?_
  first | (refine D.yes rfl rfl (by first | rfl | assumption) ?_; first | refine D.cmp rfl rfl rfl (by first | exact decide_eq_true (by omega) | exact decide_eq_false (by omega)) rfl ?_ | refine D.cmp rfl rfl rfl rfl rfl ?_) | refine D.no rfl rfl rfl rfl ?_
  refine D.pick rfl rfl rfl rfl rfl ?_
  refine D.move rfl rfl ?_
  first | (refine D.yes rfl rfl (by first | rfl | assumption) ?_; first | refine D.loadA hE T39 rfl rfl rfl (by first | exact tkS (by assumption) (by assumption) | exact ints_take (by simp [*])) (by simp [ints_len, *]) rfl ?_ | refine D.load hE T39 rfl rfl rfl rfl ?_) | refine D.no rfl rfl rfl rfl ?_
  first | (refine D.yes rfl rfl (by first | rfl | assumption) ?_; first | refine D.loadA hE T39 rfl rfl rfl (by first | exact tkS (by assumption) (by assumption) | exact ints_take (by simp [*])) (by simp [ints_len, *]) rfl ?_ | refine D.load hE T39 rfl rfl rfl rfl ?_) | refine D.no rfl rfl rfl rfl ?_
  first | (refine D.yes rfl rfl (by first | rfl | assumption) ?_; refine D.eqAgg rfl rfl (vals_strm _ _ _ _) (by kernel_rfl) (eq39 hH hB) rfl ?_) | refine D.no rfl rfl rfl rfl ?_
  refine D.pick rfl rfl rfl rfl rfl ?_
  refine D.move rfl rfl ?_
  first | (refine D.yes rfl rfl (by first | rfl | assumption) ?_; first | refine D.loadA hE T25 rfl rfl rfl (by first | exact tkS (by assumption) (by assumption) | exact ints_take (by simp [*])) (by simp [ints_len, *]) rfl ?_ | refine D.load hE T25 rfl rfl rfl rfl ?_) | refine D.no rfl rfl rfl rfl ?_
  first | (refine D.yes rfl rfl (by first | rfl | assumption) ?_; refine D.move rfl rfl ?_) | refine D.no rfl rfl rfl rfl ?_
  first | (refine D.yes rfl rfl (by first | rfl | assumption) ?_; refine D.callE c4 rfl (by first | rfl | simp [closed, men3, mens2_app, mens2_ints, mens2, men2, men1, mens1_app, mens1_ints, mens1]) (by first | rfl | simp [d2, ds1_ints, ds1_app, ds1, d1, ds0_app, ds0_ints, ds0, d0]) rfl ?_) | refine D.no rfl rfl rfl rfl ?_
  first | (refine D.yes rfl rfl (by first | rfl | assumption) ?_; refine D.eqAgg rfl rfl (vals_ints _) (by kernel_rfl) (eq25 R hRl) rfl ?_) | refine D.no rfl rfl rfl rfl ?_
  refine D.pick rfl rfl rfl rfl rfl ?_
  refine D.move rfl rfl ?_
  first | (refine D.yes rfl rfl (by first | rfl | assumption) ?_; refine D.callE c5 rfl (by first | rfl | simp [closed, men3, mens2_app, mens2_ints, mens2, men2, men1, mens1_app, mens1_ints, mens1]) (by first | rfl | simp [d2, ds1_ints, ds1_app, ds1, d1, ds0_app, ds0_ints, ds0, d0]) rfl ?_) | refine D.no rfl rfl rfl rfl ?_
  refine D.pick rfl rfl rfl rfl rfl ?_
  refine D.assign rfl rfl ?_
  refine Dr.nil ?_
  refine ⟨rfl, ?_⟩
  try refine Run.keep [0, 1, 2, 6, 7, 8, 9, 11, 12, 13, 14, 15, 16, 17, 48, 49, 50, 51, 79] rfl rfl ?_
  (repeat (first | refine Run.seq ?_ | refine Run.skip ?_)); (try refine Run.ret ?_); first | exact Ends.flat hE (.inr rfl) rfl rfl (AVle.of_eq rfl) rfl | exact Ends.flat hE (.inl rfl) rfl rfl (AVle.of_eq rfl) rfl
end Go.Proofs.YtcbdhdblchmofaaDoor.Vm
