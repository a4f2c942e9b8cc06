/- SHA-256: one turn gives eight words, always the same ones for the same words. Conditions: the table of steps has 64 words. -/
import Derived.Test.YthpenjbpaegpgaaDoorVmEnv
namespace Go.Proofs.YthpenjbpaegpgaaDoor.Vm
open Go Go.RowKit
set_option linter.unusedVariables false
set_option linter.unusedSimpArgs false
attribute [local irreducible] Ops Dr Run
variable {g : Nat → Option (List PV)}
theorem rot_ex (x j : Int) : ∃ r : Int, FnC (En Tryd.prog g) 40 [.pv (.int .u32 x), .pv (.int .i64 j)] (.pv (.int .u32 r)) [] := by
  have hE := EnOk g
  obtain ⟨_, ⟨r, rfl⟩, h⟩ : ∃ v, (∃ r, v = .pv (.int .u32 r)) ∧ FnC (En Tryd.prog g) 40 [.pv (.int .u32 x), .pv (.int .i64 j)] v [] := by
    refine FnC.ofEx Tryd.func40 rfl rfl rfl rfl ?_
    repeat (first | refine Run.seq ?_ | refine Run.skip ?_ | refine Run.block ?_)
    refine Run.region ?_
    refine O.assign rfl rfl ?_
    refine O.nil ?_
    try refine Run.keep [0, 1, 4, 5] rfl rfl ?_
    repeat (first | refine Run.seq ?_ | refine Run.skip ?_ | refine Run.block ?_)
    refine Run.region ?_
    refine O.move rfl rfl ?_
    refine O.conv hE T3 T64 rfl rfl rfl ?_
    refine O.bit rfl rfl rfl rfl ?_
    refine O.assign rfl rfl ?_
    refine O.nil ?_
    try refine Run.keep [0, 1, 4, 5] rfl rfl ?_
    repeat (first | refine Run.seq ?_ | refine Run.skip ?_ | refine Run.block ?_)
    refine Run.region ?_
    refine O.move rfl rfl ?_
    refine O.move rfl rfl ?_
    refine O.shl rfl rfl (by first | omega | (exact wrap_nn rfl _)) rfl ?_
    refine O.move rfl rfl ?_
    refine O.move rfl rfl ?_
    refine O.ar rfl rfl rfl rfl rfl ?_
    refine O.shr rfl rfl (by first | omega | (exact wrap_nn rfl _)) rfl ?_
    refine O.bit rfl rfl rfl rfl ?_
    refine O.assign rfl rfl ?_
    refine O.nil ?_
    try refine Run.keep [0, 1, 4, 5] rfl rfl ?_
    refine Run.ret ?_
    refine ⟨_, ⟨_, rfl⟩, Ends.ex hE (.inr rfl) (.tmp rfl .nil) rfl rfl⟩
  exact ⟨r, h⟩
theorem rot_fn : ∃ R : Int → Int → Int, ∀ x j, FnC (En Tryd.prog g) 40 [.pv (.int .u32 x), .pv (.int .i64 j)] (.pv (.int .u32 (R x j))) [] :=
  ⟨fun x j => Classical.choose (rot_ex x j), fun x j => Classical.choose_spec (rot_ex x j)⟩
theorem turn_ex {ks : List Int} (hg : g 0 = some (ks.map (PV.int .u32))) (hk : ks.length = 64) (H B : List Int) (hH : H.length = 8) (hB : B.length = 64) :
    ∃ R : List Int, R.length = 8 ∧ FnC (En Tryd.prog g) 39 [.agg (ints .u32 H), .agg (ints .u8 B)] (.agg (ints .u32 R)) [] := by
  have hE := EnOk g
  obtain ⟨R, hR⟩ := rot_fn (g := g)
  suffices h : ∃ v, (∃ R : List Int, R.length = 8 ∧ v = .agg (ints .u32 R)) ∧ FnC (En Tryd.prog g) 39 [.agg (ints .u32 H), .agg (ints .u8 B)] v [] by
    obtain ⟨_, ⟨R, h1, rfl⟩, h2⟩ := h
    exact ⟨R, h1, h2⟩
  refine FnC.ofEx Tryd.func39 rfl rfl rfl rfl ?_
  repeat (first | refine Run.seq ?_ | refine Run.skip ?_ | refine Run.block ?_)
  refine Run.region ?_
  refine O.box 2 rfl (by first | rfl | exact cells_ones (by simp [ones_app, ones_ints, ones, AV.one, PV.one])) rfl rfl ?_
  refine O.box 3 rfl (by first | rfl | exact cells_ones (by simp [ones_app, ones_ints, ones, AV.one, PV.one])) rfl rfl ?_
  first | refine O.allocS hE 4 T68 ints_zero rfl rfl ?_ | refine O.alloc hE 4 T68 rfl rfl rfl ?_
  refine O.nil ?_
  try refine Run.keep [0, 1, 2, 3, 4, 5, 6, 7, 8, 9, 10, 11, 12, 13, 14, 15, 16, 17, 18, 19, 20, 21, 56, 99, 100, 181, 182] rfl rfl ?_
  repeat (first | refine Run.seq ?_ | refine Run.skip ?_ | refine Run.block ?_)
  refine Run.region ?_
  first | refine O.allocS hE 5 T75 ints_zero rfl rfl ?_ | refine O.alloc hE 5 T75 rfl rfl rfl ?_
  refine O.nil ?_
  try refine Run.keep [0, 1, 2, 3, 4, 5, 6, 7, 8, 9, 10, 11, 12, 13, 14, 15, 16, 17, 18, 19, 20, 21, 56, 99, 100, 181, 182] rfl rfl ?_
  repeat (first | refine Run.seq ?_ | refine Run.skip ?_ | refine Run.block ?_)
  refine Run.region ?_
  refine O.move rfl rfl ?_
  refine O.nil ?_
  try refine Run.keep [0, 1, 2, 3, 4, 5, 6, 7, 8, 9, 10, 11, 12, 13, 14, 15, 16, 17, 18, 19, 20, 21, 56, 99, 100, 181, 182] rfl rfl ?_
  refine Run.block ?_
  refine Run.loopInv (ι := Int × List Int) (fun p => 0 ≤ p.1 ∧ p.1 ≤ 16 ∧ p.2.length = 64) (fun p => ⟨194, [(2, .ptr 2 0), (3, .ptr 3 0), (4, .ptr 4 0), (5, .ptr 5 0), (20, .pv (.int .i64 p.1))], [(5, .var (ints .u32 p.2)), (4, .var (ints .u32 [0, 0, 0, 0, 0, 0, 0, 0])), (3, .var (ints .u8 B)), (2, .var (ints .u32 H))]⟩) (fun p => (16 - p.1).toNat) (0, List.replicate 64 0) ⟨by omega, by omega, by simp⟩ ?_ ?_
  ·
    refine SLe.eqv (by repeat (first | exact TmIn.nil | refine TmIn.cons rfl ?_)) (by repeat (first | exact BxIn.nil | refine BxIn.cons rfl ?_)) rfl
  ·
    rintro ⟨i, w⟩ ⟨h0, h1, hw⟩ ih
    dsimp only at h0 h1 hw ih ⊢
    by_cases hi : i < 16
    ·
      repeat (first | refine Run.seq ?_ | refine Run.skip ?_ | refine Run.block ?_)
      refine Run.region ?_
      first | refine O.cmp rfl rfl rfl (by first | exact decide_eq_true (by omega) | exact decide_eq_false (by omega)) rfl ?_ | refine O.cmp rfl rfl rfl rfl rfl ?_
      refine O.nil ?_
      try refine Run.keep [0, 1, 2, 3, 4, 5, 6, 7, 8, 9, 10, 11, 12, 13, 14, 15, 16, 17, 18, 19, 20, 21, 56, 99, 100, 181, 182] rfl rfl ?_
      repeat (first | refine Run.seq ?_ | refine Run.skip ?_)
      first | refine Run.condT rfl rfl ?_ | refine Run.condF rfl rfl ?_ | refine Run.condT rfl (by assumption) ?_ | refine Run.condF rfl (by assumption) ?_
      repeat (first | refine Run.seq ?_ | refine Run.skip ?_ | refine Run.block ?_)
      refine Run.region ?_
      refine O.move rfl rfl ?_
      refine O.assign rfl rfl ?_
      refine O.nil ?_
      try refine Run.keep [0, 1, 2, 3, 4, 5, 6, 7, 8, 9, 10, 11, 12, 13, 14, 15, 16, 17, 18, 19, 20, 21, 56, 99, 100, 181, 182] rfl rfl ?_
      repeat (first | refine Run.seq ?_ | refine Run.skip ?_ | refine Run.block ?_)
      refine Run.draw mixed rfl ?_
      refine D.move rfl rfl ?_
      refine D.move rfl rfl ?_
      first | refine D.ar rfl rfl rfl (by exact wrap_i64 (by omega) (by omega)) rfl ?_ | refine D.ar rfl rfl rfl rfl rfl ?_
      first | refine D.ixS hE T65 rfl T5 rfl rfl rfl (by omega) (by omega) rfl ?_ | refine D.ixE hE T65 rfl T5 rfl (glo_ev (by assumption)) rfl (by omega) (by omega) rfl ?_
      first | refine D.loadS hE T5 rfl rfl rfl (ints_at (by first | omega | (simp only [List.length_set]; omega))) rfl ?_ | refine D.loadE hE T5 rfl rfl (drop_at (by omega)) rfl ?_ | refine D.load hE T5 rfl rfl rfl rfl ?_
      refine D.conv hE T5 T67 rfl rfl rfl ?_
      refine D.shl rfl rfl (by first | omega | (exact wrap_nn rfl _)) rfl ?_
      refine D.move rfl rfl ?_
      first | refine D.ar rfl rfl rfl (by exact wrap_i64 (by omega) (by omega)) rfl ?_ | refine D.ar rfl rfl rfl rfl rfl ?_
      first | refine D.ar rfl rfl rfl (by exact wrap_i64 (by omega) (by omega)) rfl ?_ | refine D.ar rfl rfl rfl rfl rfl ?_
      first | refine D.ixS hE T65 rfl T5 rfl rfl rfl (by omega) (by omega) rfl ?_ | refine D.ixE hE T65 rfl T5 rfl (glo_ev (by assumption)) rfl (by omega) (by omega) rfl ?_
      first | refine D.loadS hE T5 rfl rfl rfl (ints_at (by first | omega | (simp only [List.length_set]; omega))) rfl ?_ | refine D.loadE hE T5 rfl rfl (drop_at (by omega)) rfl ?_ | refine D.load hE T5 rfl rfl rfl rfl ?_
      refine D.conv hE T5 T67 rfl rfl rfl ?_
      refine D.shl rfl rfl (by first | omega | (exact wrap_nn rfl _)) rfl ?_
      refine D.bit rfl rfl rfl rfl ?_
      refine D.move rfl rfl ?_
      first | refine D.ar rfl rfl rfl (by exact wrap_i64 (by omega) (by omega)) rfl ?_ | refine D.ar rfl rfl rfl rfl rfl ?_
      first | refine D.ar rfl rfl rfl (by exact wrap_i64 (by omega) (by omega)) rfl ?_ | refine D.ar rfl rfl rfl rfl rfl ?_
      first | refine D.ixS hE T65 rfl T5 rfl rfl rfl (by omega) (by omega) rfl ?_ | refine D.ixE hE T65 rfl T5 rfl (glo_ev (by assumption)) rfl (by omega) (by omega) rfl ?_
      first | refine D.loadS hE T5 rfl rfl rfl (ints_at (by first | omega | (simp only [List.length_set]; omega))) rfl ?_ | refine D.loadE hE T5 rfl rfl (drop_at (by omega)) rfl ?_ | refine D.load hE T5 rfl rfl rfl rfl ?_
      refine D.conv hE T5 T67 rfl rfl rfl ?_
      refine D.shl rfl rfl (by first | omega | (exact wrap_nn rfl _)) rfl ?_
      refine D.bit rfl rfl rfl rfl ?_
      refine D.move rfl rfl ?_
      first | refine D.ar rfl rfl rfl (by exact wrap_i64 (by omega) (by omega)) rfl ?_ | refine D.ar rfl rfl rfl rfl rfl ?_
      first | refine D.ar rfl rfl rfl (by exact wrap_i64 (by omega) (by omega)) rfl ?_ | refine D.ar rfl rfl rfl rfl rfl ?_
      first | refine D.ixS hE T65 rfl T5 rfl rfl rfl (by omega) (by omega) rfl ?_ | refine D.ixE hE T65 rfl T5 rfl (glo_ev (by assumption)) rfl (by omega) (by omega) rfl ?_
      first | refine D.loadS hE T5 rfl rfl rfl (ints_at (by first | omega | (simp only [List.length_set]; omega))) rfl ?_ | refine D.loadE hE T5 rfl rfl (drop_at (by omega)) rfl ?_ | refine D.load hE T5 rfl rfl rfl rfl ?_
      refine D.conv hE T5 T67 rfl rfl rfl ?_
      refine D.bit rfl rfl rfl rfl ?_
      first | refine D.ixS hE T75 rfl T67 rfl rfl rfl (by omega) (by omega) rfl ?_ | refine D.ixE hE T75 rfl T67 rfl (glo_ev (by assumption)) rfl (by omega) (by omega) rfl ?_
      first | refine D.storeS hE T67 rfl rfl (by first | rfl | exact cells_ones (by simp [ones_app, ones_ints, ones, AV.one, PV.one])) rfl (by first | rfl | simp [ints_len, *]) (by simp [ints_len, *] <;> omega) (by first | exact setAt_ints (by first | omega | (simp only [List.length_set]; omega)) | exact set8 (by simp [ints_len, *]) | exact setAt_all _ _ (by simp [ints_len, *])) ?_ | refine D.store hE T67 rfl rfl rfl rfl rfl rfl ?_
      refine Dr.nil ?_
      refine ⟨rfl, ?_⟩
      try refine Run.keep [0, 1, 2, 3, 4, 5, 6, 7, 8, 9, 10, 11, 12, 13, 14, 15, 16, 17, 18, 19, 20, 21, 56, 99, 100, 181, 182] rfl rfl ?_
      repeat (first | refine Run.seq ?_ | refine Run.skip ?_ | refine Run.block ?_)
      refine Run.region ?_
      first | refine O.ar rfl rfl rfl (by exact wrap_i64 (by omega) (by omega)) rfl ?_ | refine O.ar rfl rfl rfl rfl rfl ?_
      refine O.move rfl rfl ?_
      refine O.nil ?_
      try refine Run.keep [0, 1, 2, 3, 4, 5, 6, 7, 8, 9, 10, 11, 12, 13, 14, 15, 16, 17, 18, 19, 20, 21, 56, 99, 100, 181, 182] rfl rfl ?_
      exact ih (i + 1, _) _ (by refine SLe.eqv (by repeat (first | exact TmIn.nil | refine TmIn.cons rfl ?_)) (by repeat (first | exact BxIn.nil | refine BxIn.cons rfl ?_)) rfl) ⟨by omega, by omega, by simp [hw]⟩ (by dsimp only; omega)
    ·
      repeat (first | refine Run.seq ?_ | refine Run.skip ?_ | refine Run.block ?_)
      refine Run.region ?_
      first | refine O.cmp rfl rfl rfl (by first | exact decide_eq_true (by omega) | exact decide_eq_false (by omega)) rfl ?_ | refine O.cmp rfl rfl rfl rfl rfl ?_
      refine O.nil ?_
      try refine Run.keep [0, 1, 2, 3, 4, 5, 6, 7, 8, 9, 10, 11, 12, 13, 14, 15, 16, 17, 18, 19, 20, 21, 56, 99, 100, 181, 182] rfl rfl ?_
      repeat (first | refine Run.seq ?_ | refine Run.skip ?_)
      first | refine Run.condT rfl rfl ?_ | refine Run.condF rfl rfl ?_ | refine Run.condT rfl (by assumption) ?_ | refine Run.condF rfl (by assumption) ?_
      refine Run.exit ?_
      repeat (first | refine thenR_exit ?_ | refine roundR_exit ?_ | refine blockR_exit ?_ | refine blockR_pass rfl ?_)
      repeat (first | refine Run.seq ?_ | refine Run.skip ?_ | refine Run.block ?_)
      refine Run.region ?_
      refine O.assign rfl rfl ?_
      refine O.nil ?_
      try refine Run.keep [0, 1, 2, 3, 4, 5, 6, 7, 8, 9, 10, 11, 12, 13, 14, 15, 16, 17, 18, 19, 20, 21, 56, 99, 100, 181, 182] rfl rfl ?_
      refine Run.block ?_
      refine Run.loopInv (ι := Int × List Int) (fun p => 16 ≤ p.1 ∧ p.1 ≤ 64 ∧ p.2.length = 64) (fun p => ⟨194, [(2, .ptr 2 0), (3, .ptr 3 0), (4, .ptr 4 0), (5, .ptr 5 0), (7, .pv (.int .i64 p.1))], [(5, .var (ints .u32 p.2)), (4, .var (ints .u32 [0, 0, 0, 0, 0, 0, 0, 0])), (3, .var (ints .u8 B)), (2, .var (ints .u32 H))]⟩) (fun p => (64 - p.1).toNat) (16, w) ⟨by omega, by omega, hw⟩ ?_ ?_
      ·
        refine SLe.eqv (by repeat (first | exact TmIn.nil | refine TmIn.cons rfl ?_)) (by repeat (first | exact BxIn.nil | refine BxIn.cons rfl ?_)) rfl
      clear ih h0 h1 hi hw w i
      rintro ⟨i, w⟩ ⟨h0, h1, hw⟩ ih
      dsimp only at h0 h1 hw ih ⊢
      by_cases hi : i < 64
      ·
        repeat (first | refine Run.seq ?_ | refine Run.skip ?_ | refine Run.block ?_)
        refine Run.region ?_
        refine O.move rfl rfl ?_
        first | refine O.cmp rfl rfl rfl (by first | exact decide_eq_true (by omega) | exact decide_eq_false (by omega)) rfl ?_ | refine O.cmp rfl rfl rfl rfl rfl ?_
        refine O.nil ?_
        try refine Run.keep [0, 1, 2, 3, 4, 5, 6, 7, 8, 9, 10, 11, 12, 13, 14, 15, 16, 17, 18, 19, 20, 21, 56, 99, 100, 181, 182] rfl rfl ?_
        repeat (first | refine Run.seq ?_ | refine Run.skip ?_)
        first | refine Run.condT rfl rfl ?_ | refine Run.condF rfl rfl ?_ | refine Run.condT rfl (by assumption) ?_ | refine Run.condF rfl (by assumption) ?_
        repeat (first | refine Run.seq ?_ | refine Run.skip ?_ | refine Run.block ?_)
        refine Run.draw mixed rfl ?_
        refine D.move rfl rfl ?_
        first | refine D.ar rfl rfl rfl (by exact wrap_i64 (by omega) (by omega)) rfl ?_ | refine D.ar rfl rfl rfl rfl rfl ?_
        first | refine D.ixS hE T75 rfl T67 rfl rfl rfl (by omega) (by omega) rfl ?_ | refine D.ixE hE T75 rfl T67 rfl (glo_ev (by assumption)) rfl (by omega) (by omega) rfl ?_
        first | refine D.loadS hE T67 rfl rfl rfl (ints_at (by first | omega | (simp only [List.length_set]; omega))) rfl ?_ | refine D.loadE hE T67 rfl rfl (drop_at (by omega)) rfl ?_ | refine D.load hE T67 rfl rfl rfl rfl ?_
        refine D.move rfl rfl ?_
        first | refine D.ar rfl rfl rfl (by exact wrap_i64 (by omega) (by omega)) rfl ?_ | refine D.ar rfl rfl rfl rfl rfl ?_
        first | refine D.ixS hE T75 rfl T67 rfl rfl rfl (by omega) (by omega) rfl ?_ | refine D.ixE hE T75 rfl T67 rfl (glo_ev (by assumption)) rfl (by omega) (by omega) rfl ?_
        first | refine D.loadS hE T67 rfl rfl rfl (ints_at (by first | omega | (simp only [List.length_set]; omega))) rfl ?_ | refine D.loadE hE T67 rfl rfl (drop_at (by omega)) rfl ?_ | refine D.load hE T67 rfl rfl rfl rfl ?_
        refine D.assign rfl rfl ?_
        refine D.assign rfl rfl ?_
        refine Dr.nil ?_
        refine ⟨rfl, ?_⟩
        try refine Run.keep [0, 1, 2, 3, 4, 5, 6, 7, 8, 9, 10, 11, 12, 13, 14, 15, 16, 17, 18, 19, 20, 21, 56, 99, 100, 181, 182] rfl rfl ?_
        repeat (first | refine Run.seq ?_ | refine Run.skip ?_ | refine Run.block ?_)
        refine Run.region ?_
        refine O.move rfl rfl ?_
        refine O.callE (hR _ _) rfl (by first | rfl | simp [closed, men3, mens2_app, mens2_ints, mens2, men2, men1, mens1_app, mens1_ints, mens1]) (by first | rfl | simp [d2, ds1_ints, ds1_app, ds1, d1, ds0_app, ds0_ints, ds0, d0]) rfl ?_
        refine O.move rfl rfl ?_
        refine O.callE (hR _ _) rfl (by first | rfl | simp [closed, men3, mens2_app, mens2_ints, mens2, men2, men1, mens1_app, mens1_ints, mens1]) (by first | rfl | simp [d2, ds1_ints, ds1_app, ds1, d1, ds0_app, ds0_ints, ds0, d0]) rfl ?_
        refine O.bit rfl rfl rfl rfl ?_
        refine O.move rfl rfl ?_
        refine O.shr rfl rfl (by first | omega | (exact wrap_nn rfl _)) rfl ?_
        refine O.bit rfl rfl rfl rfl ?_
        refine O.assign rfl rfl ?_
        refine O.nil ?_
        try refine Run.keep [0, 1, 2, 3, 4, 5, 6, 7, 8, 9, 10, 11, 12, 13, 14, 15, 16, 17, 18, 19, 20, 21, 56, 99, 100, 181, 182] rfl rfl ?_
        repeat (first | refine Run.seq ?_ | refine Run.skip ?_ | refine Run.block ?_)
        refine Run.region ?_
        refine O.move rfl rfl ?_
        refine O.callE (hR _ _) rfl (by first | rfl | simp [closed, men3, mens2_app, mens2_ints, mens2, men2, men1, mens1_app, mens1_ints, mens1]) (by first | rfl | simp [d2, ds1_ints, ds1_app, ds1, d1, ds0_app, ds0_ints, ds0, d0]) rfl ?_
        refine O.move rfl rfl ?_
        refine O.callE (hR _ _) rfl (by first | rfl | simp [closed, men3, mens2_app, mens2_ints, mens2, men2, men1, mens1_app, mens1_ints, mens1]) (by first | rfl | simp [d2, ds1_ints, ds1_app, ds1, d1, ds0_app, ds0_ints, ds0, d0]) rfl ?_
        refine O.bit rfl rfl rfl rfl ?_
        refine O.move rfl rfl ?_
        refine O.shr rfl rfl (by first | omega | (exact wrap_nn rfl _)) rfl ?_
        refine O.bit rfl rfl rfl rfl ?_
        refine O.assign rfl rfl ?_
        refine O.nil ?_
        try refine Run.keep [0, 1, 2, 3, 4, 5, 6, 7, 8, 9, 10, 11, 12, 13, 14, 15, 16, 17, 18, 19, 20, 21, 56, 99, 100, 181, 182] rfl rfl ?_
        repeat (first | refine Run.seq ?_ | refine Run.skip ?_ | refine Run.block ?_)
        refine Run.draw mixed rfl ?_
        refine D.move rfl rfl ?_
        refine D.move rfl rfl ?_
        first | refine D.ar rfl rfl rfl (by exact wrap_i64 (by omega) (by omega)) rfl ?_ | refine D.ar rfl rfl rfl rfl rfl ?_
        first | refine D.ixS hE T75 rfl T67 rfl rfl rfl (by omega) (by omega) rfl ?_ | refine D.ixE hE T75 rfl T67 rfl (glo_ev (by assumption)) rfl (by omega) (by omega) rfl ?_
        first | refine D.loadS hE T67 rfl rfl rfl (ints_at (by first | omega | (simp only [List.length_set]; omega))) rfl ?_ | refine D.loadE hE T67 rfl rfl (drop_at (by omega)) rfl ?_ | refine D.load hE T67 rfl rfl rfl rfl ?_
        refine D.move rfl rfl ?_
        refine D.ar rfl rfl rfl rfl rfl ?_
        refine D.move rfl rfl ?_
        first | refine D.ar rfl rfl rfl (by exact wrap_i64 (by omega) (by omega)) rfl ?_ | refine D.ar rfl rfl rfl rfl rfl ?_
        first | refine D.ixS hE T75 rfl T67 rfl rfl rfl (by omega) (by omega) rfl ?_ | refine D.ixE hE T75 rfl T67 rfl (glo_ev (by assumption)) rfl (by omega) (by omega) rfl ?_
        first | refine D.loadS hE T67 rfl rfl rfl (ints_at (by first | omega | (simp only [List.length_set]; omega))) rfl ?_ | refine D.loadE hE T67 rfl rfl (drop_at (by omega)) rfl ?_ | refine D.load hE T67 rfl rfl rfl rfl ?_
        refine D.ar rfl rfl rfl rfl rfl ?_
        refine D.move rfl rfl ?_
        refine D.ar rfl rfl rfl rfl rfl ?_
        first | refine D.ixS hE T75 rfl T67 rfl rfl rfl (by omega) (by omega) rfl ?_ | refine D.ixE hE T75 rfl T67 rfl (glo_ev (by assumption)) rfl (by omega) (by omega) rfl ?_
        first | refine D.storeS hE T67 rfl rfl (by first | rfl | exact cells_ones (by simp [ones_app, ones_ints, ones, AV.one, PV.one])) rfl (by first | rfl | simp [ints_len, *]) (by simp [ints_len, *] <;> omega) (by first | exact setAt_ints (by first | omega | (simp only [List.length_set]; omega)) | exact set8 (by simp [ints_len, *]) | exact setAt_all _ _ (by simp [ints_len, *])) ?_ | refine D.store hE T67 rfl rfl rfl rfl rfl rfl ?_
        refine Dr.nil ?_
        refine ⟨rfl, ?_⟩
        try refine Run.keep [0, 1, 2, 3, 4, 5, 6, 7, 8, 9, 10, 11, 12, 13, 14, 15, 16, 17, 18, 19, 20, 21, 56, 99, 100, 181, 182] rfl rfl ?_
        repeat (first | refine Run.seq ?_ | refine Run.skip ?_ | refine Run.block ?_)
        refine Run.region ?_
        refine O.move rfl rfl ?_
        first | refine O.ar rfl rfl rfl (by exact wrap_i64 (by omega) (by omega)) rfl ?_ | refine O.ar rfl rfl rfl rfl rfl ?_
        refine O.assign rfl rfl ?_
        refine O.nil ?_
        try refine Run.keep [0, 1, 2, 3, 4, 5, 6, 7, 8, 9, 10, 11, 12, 13, 14, 15, 16, 17, 18, 19, 20, 21, 56, 99, 100, 181, 182] rfl rfl ?_
        exact ih (i + 1, _) _ (by refine SLe.eqv (by repeat (first | exact TmIn.nil | refine TmIn.cons rfl ?_)) (by repeat (first | exact BxIn.nil | refine BxIn.cons rfl ?_)) rfl) ⟨by omega, by omega, by simp [hw]⟩ (by dsimp only; omega)
      ·
        repeat (first | refine Run.seq ?_ | refine Run.skip ?_ | refine Run.block ?_)
        refine Run.region ?_
        refine O.move rfl rfl ?_
        first | refine O.cmp rfl rfl rfl (by first | exact decide_eq_true (by omega) | exact decide_eq_false (by omega)) rfl ?_ | refine O.cmp rfl rfl rfl rfl rfl ?_
        refine O.nil ?_
        try refine Run.keep [0, 1, 2, 3, 4, 5, 6, 7, 8, 9, 10, 11, 12, 13, 14, 15, 16, 17, 18, 19, 20, 21, 56, 99, 100, 181, 182] rfl rfl ?_
        repeat (first | refine Run.seq ?_ | refine Run.skip ?_)
        first | refine Run.condT rfl rfl ?_ | refine Run.condF rfl rfl ?_ | refine Run.condT rfl (by assumption) ?_ | refine Run.condF rfl (by assumption) ?_
        refine Run.exit ?_
        repeat (first | refine thenR_exit ?_ | refine roundR_exit ?_ | refine blockR_exit ?_ | refine blockR_pass rfl ?_)
        repeat (first | refine Run.seq ?_ | refine Run.skip ?_ | refine Run.block ?_)
        refine Run.region ?_
        first | refine O.loadA hE T68 rfl rfl rfl (ints_take (by assumption)) (by simp [ints_len, *]) rfl ?_ | refine O.load hE T68 rfl rfl rfl rfl ?_
        first | refine O.allocS hE 12 T68 ints_zero rfl rfl ?_ | refine O.alloc hE 12 T68 rfl rfl rfl ?_
        first | refine O.storeS hE T68 rfl rfl (by first | rfl | exact cells_ones (by simp [ones_app, ones_ints, ones, AV.one, PV.one])) rfl (by first | rfl | simp [ints_len, *]) (by simp [ints_len, *] <;> omega) (by first | exact setAt_ints (by first | omega | (simp only [List.length_set]; omega)) | exact set8 (by simp [ints_len, *]) | exact setAt_all _ _ (by simp [ints_len, *])) ?_ | refine O.store hE T68 rfl rfl rfl rfl rfl rfl ?_
        refine O.nil ?_
        try refine Run.keep [0, 1, 2, 3, 4, 5, 6, 7, 8, 9, 10, 11, 12, 13, 14, 15, 16, 17, 18, 19, 20, 21, 56, 99, 100, 181, 182] rfl rfl ?_
        repeat (first | refine Run.seq ?_ | refine Run.skip ?_ | refine Run.block ?_)
        refine Run.region ?_
        refine O.move rfl rfl ?_
        refine O.nil ?_
        try refine Run.keep [0, 1, 2, 3, 4, 5, 6, 7, 8, 9, 10, 11, 12, 13, 14, 15, 16, 17, 18, 19, 20, 21, 56, 99, 100, 181, 182] rfl rfl ?_
        refine Run.block ?_
        refine Run.loopInv (ι := Int × List Int) (fun p => 0 ≤ p.1 ∧ p.1 ≤ 64 ∧ p.2.length = 8) (fun p => ⟨194, [(2, .ptr 2 0), (3, .ptr 3 0), (4, .ptr 4 0), (5, .ptr 5 0), (12, .ptr 12 0), (99, .pv (.int .i64 p.1))], [(12, .var (ints .u32 p.2)), (5, .var (ints .u32 w)), (4, .var (ints .u32 [0, 0, 0, 0, 0, 0, 0, 0])), (3, .var (ints .u8 B)), (2, .var (ints .u32 H))]⟩) (fun p => (64 - p.1).toNat) (0, H) ⟨by omega, by omega, hH⟩ ?_ ?_
        ·
          refine SLe.eqv (by repeat (first | exact TmIn.nil | refine TmIn.cons rfl ?_)) (by repeat (first | exact BxIn.nil | refine BxIn.cons rfl ?_)) rfl
        clear ih h0 h1 hi i
        rintro ⟨i, v⟩ ⟨h0, h1, hv⟩ ih
        dsimp only at h0 h1 hv ih ⊢
        by_cases hi : i < 64
        ·
          repeat (first | refine Run.seq ?_ | refine Run.skip ?_ | refine Run.block ?_)
          refine Run.region ?_
          first | refine O.cmp rfl rfl rfl (by first | exact decide_eq_true (by omega) | exact decide_eq_false (by omega)) rfl ?_ | refine O.cmp rfl rfl rfl rfl rfl ?_
          refine O.nil ?_
          try refine Run.keep [0, 1, 2, 3, 4, 5, 6, 7, 8, 9, 10, 11, 12, 13, 14, 15, 16, 17, 18, 19, 20, 21, 56, 99, 100, 181, 182] rfl rfl ?_
          repeat (first | refine Run.seq ?_ | refine Run.skip ?_)
          first | refine Run.condT rfl rfl ?_ | refine Run.condF rfl rfl ?_ | refine Run.condT rfl (by assumption) ?_ | refine Run.condF rfl (by assumption) ?_
          repeat (first | refine Run.seq ?_ | refine Run.skip ?_ | refine Run.block ?_)
          refine Run.region ?_
          refine O.move rfl rfl ?_
          refine O.assign rfl rfl ?_
          refine O.nil ?_
          try refine Run.keep [0, 1, 2, 3, 4, 5, 6, 7, 8, 9, 10, 11, 12, 13, 14, 15, 16, 17, 18, 19, 20, 21, 56, 99, 100, 181, 182] rfl rfl ?_
          repeat (first | refine Run.seq ?_ | refine Run.skip ?_ | refine Run.block ?_)
          refine Run.draw mixed rfl ?_
          first | refine D.ixS hE T68 rfl T67 rfl rfl rfl (by omega) (by omega) rfl ?_ | refine D.ixE hE T68 rfl T67 rfl (glo_ev (by assumption)) rfl (by omega) (by omega) rfl ?_
          first | refine D.loadS hE T67 rfl rfl rfl (ints_at (by first | omega | (simp only [List.length_set]; omega))) rfl ?_ | refine D.loadE hE T67 rfl rfl (drop_at (by omega)) rfl ?_ | refine D.load hE T67 rfl rfl rfl rfl ?_
          first | refine D.ixS hE T68 rfl T67 rfl rfl rfl (by omega) (by omega) rfl ?_ | refine D.ixE hE T68 rfl T67 rfl (glo_ev (by assumption)) rfl (by omega) (by omega) rfl ?_
          first | refine D.loadS hE T67 rfl rfl rfl (ints_at (by first | omega | (simp only [List.length_set]; omega))) rfl ?_ | refine D.loadE hE T67 rfl rfl (drop_at (by omega)) rfl ?_ | refine D.load hE T67 rfl rfl rfl rfl ?_
          refine D.assign rfl rfl ?_
          refine D.assign rfl rfl ?_
          refine Dr.nil ?_
          refine ⟨rfl, ?_⟩
          try refine Run.keep [0, 1, 2, 3, 4, 5, 6, 7, 8, 9, 10, 11, 12, 13, 14, 15, 16, 17, 18, 19, 20, 21, 56, 99, 100, 181, 182] rfl rfl ?_
          repeat (first | refine Run.seq ?_ | refine Run.skip ?_ | refine Run.block ?_)
          refine Run.region ?_
          refine O.move rfl rfl ?_
          refine O.callE (hR _ _) rfl (by first | rfl | simp [closed, men3, mens2_app, mens2_ints, mens2, men2, men1, mens1_app, mens1_ints, mens1]) (by first | rfl | simp [d2, ds1_ints, ds1_app, ds1, d1, ds0_app, ds0_ints, ds0, d0]) rfl ?_
          refine O.move rfl rfl ?_
          refine O.callE (hR _ _) rfl (by first | rfl | simp [closed, men3, mens2_app, mens2_ints, mens2, men2, men1, mens1_app, mens1_ints, mens1]) (by first | rfl | simp [d2, ds1_ints, ds1_app, ds1, d1, ds0_app, ds0_ints, ds0, d0]) rfl ?_
          refine O.bit rfl rfl rfl rfl ?_
          refine O.move rfl rfl ?_
          refine O.callE (hR _ _) rfl (by first | rfl | simp [closed, men3, mens2_app, mens2_ints, mens2, men2, men1, mens1_app, mens1_ints, mens1]) (by first | rfl | simp [d2, ds1_ints, ds1_app, ds1, d1, ds0_app, ds0_ints, ds0, d0]) rfl ?_
          refine O.bit rfl rfl rfl rfl ?_
          refine O.assign rfl rfl ?_
          refine O.nil ?_
          try refine Run.keep [0, 1, 2, 3, 4, 5, 6, 7, 8, 9, 10, 11, 12, 13, 14, 15, 16, 17, 18, 19, 20, 21, 56, 99, 100, 181, 182] rfl rfl ?_
          repeat (first | refine Run.seq ?_ | refine Run.skip ?_ | refine Run.block ?_)
          refine Run.draw mixed rfl ?_
          first | refine D.ixS hE T68 rfl T67 rfl rfl rfl (by omega) (by omega) rfl ?_ | refine D.ixE hE T68 rfl T67 rfl (glo_ev (by assumption)) rfl (by omega) (by omega) rfl ?_
          first | refine D.loadS hE T67 rfl rfl rfl (ints_at (by first | omega | (simp only [List.length_set]; omega))) rfl ?_ | refine D.loadE hE T67 rfl rfl (drop_at (by omega)) rfl ?_ | refine D.load hE T67 rfl rfl rfl rfl ?_
          refine D.move rfl rfl ?_
          refine D.ar rfl rfl rfl rfl rfl ?_
          refine D.move rfl rfl ?_
          first | refine D.ixS hE T68 rfl T67 rfl rfl rfl (by omega) (by omega) rfl ?_ | refine D.ixE hE T68 rfl T67 rfl (glo_ev (by assumption)) rfl (by omega) (by omega) rfl ?_
          first | refine D.loadS hE T67 rfl rfl rfl (ints_at (by first | omega | (simp only [List.length_set]; omega))) rfl ?_ | refine D.loadE hE T67 rfl rfl (drop_at (by omega)) rfl ?_ | refine D.load hE T67 rfl rfl rfl rfl ?_
          refine D.bit rfl rfl rfl rfl ?_
          refine D.move rfl rfl ?_
          refine D.notB rfl rfl ?_
          first | refine D.ixS hE T68 rfl T67 rfl rfl rfl (by omega) (by omega) rfl ?_ | refine D.ixE hE T68 rfl T67 rfl (glo_ev (by assumption)) rfl (by omega) (by omega) rfl ?_
          first | refine D.loadS hE T67 rfl rfl rfl (ints_at (by first | omega | (simp only [List.length_set]; omega))) rfl ?_ | refine D.loadE hE T67 rfl rfl (drop_at (by omega)) rfl ?_ | refine D.load hE T67 rfl rfl rfl rfl ?_
          refine D.bit rfl rfl rfl rfl ?_
          refine D.bit rfl rfl rfl rfl ?_
          refine D.ar rfl rfl rfl rfl rfl ?_
          refine D.move rfl rfl ?_
          first | refine D.ixS hE T75 rfl T67 rfl rfl rfl (by omega) (by omega) rfl ?_ | refine D.ixE hE T75 rfl T67 rfl (glo_ev (by assumption)) rfl (by omega) (by omega) rfl ?_
          first | refine D.loadS hE T67 rfl rfl rfl (ints_at (by first | omega | (simp only [List.length_set]; omega))) rfl ?_ | refine D.loadE hE T67 rfl rfl (drop_at (by omega)) rfl ?_ | refine D.load hE T67 rfl rfl rfl rfl ?_
          refine D.ar rfl rfl rfl rfl rfl ?_
          refine D.move rfl rfl ?_
          first | refine D.ixS hE T75 rfl T67 rfl rfl rfl (by omega) (by omega) rfl ?_ | refine D.ixE hE T75 rfl T67 rfl (glo_ev (by assumption)) rfl (by omega) (by omega) rfl ?_
          first | refine D.loadS hE T67 rfl rfl rfl (ints_at (by first | omega | (simp only [List.length_set]; omega))) rfl ?_ | refine D.loadE hE T67 rfl rfl (drop_at (by omega)) rfl ?_ | refine D.load hE T67 rfl rfl rfl rfl ?_
          refine D.ar rfl rfl rfl rfl rfl ?_
          refine D.assign rfl rfl ?_
          refine Dr.nil ?_
          refine ⟨rfl, ?_⟩
          try refine Run.keep [0, 1, 2, 3, 4, 5, 6, 7, 8, 9, 10, 11, 12, 13, 14, 15, 16, 17, 18, 19, 20, 21, 56, 99, 100, 181, 182] rfl rfl ?_
          repeat (first | refine Run.seq ?_ | refine Run.skip ?_ | refine Run.block ?_)
          refine Run.region ?_
          refine O.move rfl rfl ?_
          refine O.callE (hR _ _) rfl (by first | rfl | simp [closed, men3, mens2_app, mens2_ints, mens2, men2, men1, mens1_app, mens1_ints, mens1]) (by first | rfl | simp [d2, ds1_ints, ds1_app, ds1, d1, ds0_app, ds0_ints, ds0, d0]) rfl ?_
          refine O.move rfl rfl ?_
          refine O.callE (hR _ _) rfl (by first | rfl | simp [closed, men3, mens2_app, mens2_ints, mens2, men2, men1, mens1_app, mens1_ints, mens1]) (by first | rfl | simp [d2, ds1_ints, ds1_app, ds1, d1, ds0_app, ds0_ints, ds0, d0]) rfl ?_
          refine O.bit rfl rfl rfl rfl ?_
          refine O.move rfl rfl ?_
          refine O.callE (hR _ _) rfl (by first | rfl | simp [closed, men3, mens2_app, mens2_ints, mens2, men2, men1, mens1_app, mens1_ints, mens1]) (by first | rfl | simp [d2, ds1_ints, ds1_app, ds1, d1, ds0_app, ds0_ints, ds0, d0]) rfl ?_
          refine O.bit rfl rfl rfl rfl ?_
          refine O.assign rfl rfl ?_
          refine O.nil ?_
          try refine Run.keep [0, 1, 2, 3, 4, 5, 6, 7, 8, 9, 10, 11, 12, 13, 14, 15, 16, 17, 18, 19, 20, 21, 56, 99, 100, 181, 182] rfl rfl ?_
          repeat (first | refine Run.seq ?_ | refine Run.skip ?_ | refine Run.block ?_)
          refine Run.region ?_
          refine O.move rfl rfl ?_
          refine O.move rfl rfl ?_
          first | refine O.ixS hE T68 rfl T67 rfl rfl rfl (by omega) (by omega) rfl ?_ | refine O.ixE hE T68 rfl T67 rfl (glo_ev (by assumption)) rfl (by omega) (by omega) rfl ?_
          first | refine O.loadS hE T67 rfl rfl rfl (ints_at (by first | omega | (simp only [List.length_set]; omega))) rfl ?_ | refine O.loadE hE T67 rfl rfl (drop_at (by omega)) rfl ?_ | refine O.load hE T67 rfl rfl rfl rfl ?_
          refine O.bit rfl rfl rfl rfl ?_
          refine O.move rfl rfl ?_
          first | refine O.ixS hE T68 rfl T67 rfl rfl rfl (by omega) (by omega) rfl ?_ | refine O.ixE hE T68 rfl T67 rfl (glo_ev (by assumption)) rfl (by omega) (by omega) rfl ?_
          first | refine O.loadS hE T67 rfl rfl rfl (ints_at (by first | omega | (simp only [List.length_set]; omega))) rfl ?_ | refine O.loadE hE T67 rfl rfl (drop_at (by omega)) rfl ?_ | refine O.load hE T67 rfl rfl rfl rfl ?_
          refine O.bit rfl rfl rfl rfl ?_
          refine O.bit rfl rfl rfl rfl ?_
          first | refine O.ixS hE T68 rfl T67 rfl rfl rfl (by omega) (by omega) rfl ?_ | refine O.ixE hE T68 rfl T67 rfl (glo_ev (by assumption)) rfl (by omega) (by omega) rfl ?_
          first | refine O.loadS hE T67 rfl rfl rfl (ints_at (by first | omega | (simp only [List.length_set]; omega))) rfl ?_ | refine O.loadE hE T67 rfl rfl (drop_at (by omega)) rfl ?_ | refine O.load hE T67 rfl rfl rfl rfl ?_
          first | refine O.ixS hE T68 rfl T67 rfl rfl rfl (by omega) (by omega) rfl ?_ | refine O.ixE hE T68 rfl T67 rfl (glo_ev (by assumption)) rfl (by omega) (by omega) rfl ?_
          first | refine O.loadS hE T67 rfl rfl rfl (ints_at (by first | omega | (simp only [List.length_set]; omega))) rfl ?_ | refine O.loadE hE T67 rfl rfl (drop_at (by omega)) rfl ?_ | refine O.load hE T67 rfl rfl rfl rfl ?_
          refine O.bit rfl rfl rfl rfl ?_
          refine O.bit rfl rfl rfl rfl ?_
          refine O.ar rfl rfl rfl rfl rfl ?_
          refine O.assign rfl rfl ?_
          refine O.nil ?_
          try refine Run.keep [0, 1, 2, 3, 4, 5, 6, 7, 8, 9, 10, 11, 12, 13, 14, 15, 16, 17, 18, 19, 20, 21, 56, 99, 100, 181, 182] rfl rfl ?_
          repeat (first | refine Run.seq ?_ | refine Run.skip ?_ | refine Run.block ?_)
          refine Run.region ?_
          refine O.move rfl rfl ?_
          refine O.move rfl rfl ?_
          refine O.ar rfl rfl rfl rfl rfl ?_
          refine O.move rfl rfl ?_
          first | refine O.ixS hE T68 rfl T67 rfl rfl rfl (by omega) (by omega) rfl ?_ | refine O.ixE hE T68 rfl T67 rfl (glo_ev (by assumption)) rfl (by omega) (by omega) rfl ?_
          first | refine O.loadS hE T67 rfl rfl rfl (ints_at (by first | omega | (simp only [List.length_set]; omega))) rfl ?_ | refine O.loadE hE T67 rfl rfl (drop_at (by omega)) rfl ?_ | refine O.load hE T67 rfl rfl rfl rfl ?_
          first | refine O.ixS hE T68 rfl T67 rfl rfl rfl (by omega) (by omega) rfl ?_ | refine O.ixE hE T68 rfl T67 rfl (glo_ev (by assumption)) rfl (by omega) (by omega) rfl ?_
          first | refine O.loadS hE T67 rfl rfl rfl (ints_at (by first | omega | (simp only [List.length_set]; omega))) rfl ?_ | refine O.loadE hE T67 rfl rfl (drop_at (by omega)) rfl ?_ | refine O.load hE T67 rfl rfl rfl rfl ?_
          first | refine O.ixS hE T68 rfl T67 rfl rfl rfl (by omega) (by omega) rfl ?_ | refine O.ixE hE T68 rfl T67 rfl (glo_ev (by assumption)) rfl (by omega) (by omega) rfl ?_
          first | refine O.loadS hE T67 rfl rfl rfl (ints_at (by first | omega | (simp only [List.length_set]; omega))) rfl ?_ | refine O.loadE hE T67 rfl rfl (drop_at (by omega)) rfl ?_ | refine O.load hE T67 rfl rfl rfl rfl ?_
          refine O.move rfl rfl ?_
          refine O.ar rfl rfl rfl rfl rfl ?_
          refine O.move rfl rfl ?_
          first | refine O.ixS hE T68 rfl T67 rfl rfl rfl (by omega) (by omega) rfl ?_ | refine O.ixE hE T68 rfl T67 rfl (glo_ev (by assumption)) rfl (by omega) (by omega) rfl ?_
          first | refine O.loadS hE T67 rfl rfl rfl (ints_at (by first | omega | (simp only [List.length_set]; omega))) rfl ?_ | refine O.loadE hE T67 rfl rfl (drop_at (by omega)) rfl ?_ | refine O.load hE T67 rfl rfl rfl rfl ?_
          first | refine O.ixS hE T68 rfl T67 rfl rfl rfl (by omega) (by omega) rfl ?_ | refine O.ixE hE T68 rfl T67 rfl (glo_ev (by assumption)) rfl (by omega) (by omega) rfl ?_
          first | refine O.loadS hE T67 rfl rfl rfl (ints_at (by first | omega | (simp only [List.length_set]; omega))) rfl ?_ | refine O.loadE hE T67 rfl rfl (drop_at (by omega)) rfl ?_ | refine O.load hE T67 rfl rfl rfl rfl ?_
          refine O.buildArr hE T68 rfl T67 rfl rfl rfl ?_
          first | refine O.storeS hE T68 rfl rfl (by first | rfl | exact cells_ones (by simp [ones_app, ones_ints, ones, AV.one, PV.one])) rfl (by first | rfl | simp [ints_len, *]) (by simp [ints_len, *] <;> omega) (by first | exact setAt_ints (by first | omega | (simp only [List.length_set]; omega)) | exact set8 (by simp [ints_len, *]) | exact setAt_all _ _ (by simp [ints_len, *])) ?_ | refine O.store hE T68 rfl rfl rfl rfl rfl rfl ?_
          refine O.nil ?_
          try refine Run.keep [0, 1, 2, 3, 4, 5, 6, 7, 8, 9, 10, 11, 12, 13, 14, 15, 16, 17, 18, 19, 20, 21, 56, 99, 100, 181, 182] rfl rfl ?_
          repeat (first | refine Run.seq ?_ | refine Run.skip ?_ | refine Run.block ?_)
          refine Run.region ?_
          first | refine O.ar rfl rfl rfl (by exact wrap_i64 (by omega) (by omega)) rfl ?_ | refine O.ar rfl rfl rfl rfl rfl ?_
          refine O.move rfl rfl ?_
          refine O.nil ?_
          try refine Run.keep [0, 1, 2, 3, 4, 5, 6, 7, 8, 9, 10, 11, 12, 13, 14, 15, 16, 17, 18, 19, 20, 21, 56, 99, 100, 181, 182] rfl rfl ?_
          exact ih (i + 1, _) _ (by refine SLe.eqv (by repeat (first | exact TmIn.nil | refine TmIn.cons rfl ?_)) (by repeat (first | exact BxIn.nil | refine BxIn.cons rfl ?_)) rfl) ⟨by omega, by omega, rfl⟩ (by dsimp only; omega)
        ·
          repeat (first | refine Run.seq ?_ | refine Run.skip ?_ | refine Run.block ?_)
          refine Run.region ?_
          first | refine O.cmp rfl rfl rfl (by first | exact decide_eq_true (by omega) | exact decide_eq_false (by omega)) rfl ?_ | refine O.cmp rfl rfl rfl rfl rfl ?_
          refine O.nil ?_
          try refine Run.keep [0, 1, 2, 3, 4, 5, 6, 7, 8, 9, 10, 11, 12, 13, 14, 15, 16, 17, 18, 19, 20, 21, 56, 99, 100, 181, 182] rfl rfl ?_
          repeat (first | refine Run.seq ?_ | refine Run.skip ?_)
          first | refine Run.condT rfl rfl ?_ | refine Run.condF rfl rfl ?_ | refine Run.condT rfl (by assumption) ?_ | refine Run.condF rfl (by assumption) ?_
          refine Run.exit ?_
          repeat (first | refine thenR_exit ?_ | refine roundR_exit ?_ | refine blockR_exit ?_ | refine blockR_pass rfl ?_)
          repeat (first | refine Run.seq ?_ | refine Run.skip ?_ | refine Run.block ?_)
          refine Run.region ?_
          refine O.move rfl rfl ?_
          refine O.nil ?_
          try refine Run.keep [0, 1, 2, 3, 4, 5, 6, 7, 8, 9, 10, 11, 12, 13, 14, 15, 16, 17, 18, 19, 20, 21, 56, 99, 100, 181, 182] rfl rfl ?_
          refine Run.block ?_
          refine Run.loopInv (ι := Int × List Int) (fun p => 0 ≤ p.1 ∧ p.1 ≤ 8 ∧ p.2.length = 8) (fun p => ⟨194, [(2, .ptr 2 0), (4, .ptr 4 0), (12, .ptr 12 0), (181, .pv (.int .i64 p.1))], [(12, .var (ints .u32 p.2)), (5, .var (ints .u32 w)), (4, .var (ints .u32 [0, 0, 0, 0, 0, 0, 0, 0])), (3, .var (ints .u8 B)), (2, .var (ints .u32 H))]⟩) (fun p => (8 - p.1).toNat) (0, v) ⟨by omega, by omega, hv⟩ ?_ ?_
          ·
            refine SLe.eqv (by repeat (first | exact TmIn.nil | refine TmIn.cons rfl ?_)) (by repeat (first | exact BxIn.nil | refine BxIn.cons rfl ?_)) rfl
          clear ih h0 h1 hi i hv v
          rintro ⟨i, v⟩ ⟨h0, h1, hv⟩ ih
          dsimp only at h0 h1 hv ih ⊢
          by_cases hi : i < 8
          ·
            repeat (first | refine Run.seq ?_ | refine Run.skip ?_ | refine Run.block ?_)
            refine Run.region ?_
            first | refine O.cmp rfl rfl rfl (by first | exact decide_eq_true (by omega) | exact decide_eq_false (by omega)) rfl ?_ | refine O.cmp rfl rfl rfl rfl rfl ?_
            refine O.nil ?_
            try refine Run.keep [0, 1, 2, 3, 4, 5, 6, 7, 8, 9, 10, 11, 12, 13, 14, 15, 16, 17, 18, 19, 20, 21, 56, 99, 100, 181, 182] rfl rfl ?_
            repeat (first | refine Run.seq ?_ | refine Run.skip ?_)
            first | refine Run.condT rfl rfl ?_ | refine Run.condF rfl rfl ?_ | refine Run.condT rfl (by assumption) ?_ | refine Run.condF rfl (by assumption) ?_
            repeat (first | refine Run.seq ?_ | refine Run.skip ?_ | refine Run.block ?_)
            refine Run.region ?_
            refine O.move rfl rfl ?_
            refine O.assign rfl rfl ?_
            refine O.nil ?_
            try refine Run.keep [0, 1, 2, 3, 4, 5, 6, 7, 8, 9, 10, 11, 12, 13, 14, 15, 16, 17, 18, 19, 20, 21, 56, 99, 100, 181, 182] rfl rfl ?_
            repeat (first | refine Run.seq ?_ | refine Run.skip ?_ | refine Run.block ?_)
            refine Run.draw mixed rfl ?_
            refine D.move rfl rfl ?_
            first | refine D.ixS hE T68 rfl T67 rfl rfl rfl (by omega) (by omega) rfl ?_ | refine D.ixE hE T68 rfl T67 rfl (glo_ev (by assumption)) rfl (by omega) (by omega) rfl ?_
            first | refine D.loadS hE T67 rfl rfl rfl (ints_at (by first | omega | (simp only [List.length_set]; omega))) rfl ?_ | refine D.loadE hE T67 rfl rfl (drop_at (by omega)) rfl ?_ | refine D.load hE T67 rfl rfl rfl rfl ?_
            refine D.move rfl rfl ?_
            first | refine D.ixS hE T68 rfl T67 rfl rfl rfl (by omega) (by omega) rfl ?_ | refine D.ixE hE T68 rfl T67 rfl (glo_ev (by assumption)) rfl (by omega) (by omega) rfl ?_
            first | refine D.loadS hE T67 rfl rfl rfl (ints_at (by first | omega | (simp only [List.length_set]; omega))) rfl ?_ | refine D.loadE hE T67 rfl rfl (drop_at (by omega)) rfl ?_ | refine D.load hE T67 rfl rfl rfl rfl ?_
            refine D.ar rfl rfl rfl rfl rfl ?_
            first | refine D.ixS hE T68 rfl T67 rfl rfl rfl (by omega) (by omega) rfl ?_ | refine D.ixE hE T68 rfl T67 rfl (glo_ev (by assumption)) rfl (by omega) (by omega) rfl ?_
            first | refine D.storeS hE T67 rfl rfl (by first | rfl | exact cells_ones (by simp [ones_app, ones_ints, ones, AV.one, PV.one])) rfl (by first | rfl | simp [ints_len, *]) (by simp [ints_len, *] <;> omega) (by first | exact setAt_ints (by first | omega | (simp only [List.length_set]; omega)) | exact set8 (by simp [ints_len, *]) | exact setAt_all _ _ (by simp [ints_len, *])) ?_ | refine D.store hE T67 rfl rfl rfl rfl rfl rfl ?_
            refine Dr.nil ?_
            refine ⟨rfl, ?_⟩
            try refine Run.keep [0, 1, 2, 3, 4, 5, 6, 7, 8, 9, 10, 11, 12, 13, 14, 15, 16, 17, 18, 19, 20, 21, 56, 99, 100, 181, 182] rfl rfl ?_
            repeat (first | refine Run.seq ?_ | refine Run.skip ?_ | refine Run.block ?_)
            refine Run.region ?_
            first | refine O.ar rfl rfl rfl (by exact wrap_i64 (by omega) (by omega)) rfl ?_ | refine O.ar rfl rfl rfl rfl rfl ?_
            refine O.move rfl rfl ?_
            refine O.nil ?_
            try refine Run.keep [0, 1, 2, 3, 4, 5, 6, 7, 8, 9, 10, 11, 12, 13, 14, 15, 16, 17, 18, 19, 20, 21, 56, 99, 100, 181, 182] rfl rfl ?_
            exact ih (i + 1, _) _ (by refine SLe.eqv (by repeat (first | exact TmIn.nil | refine TmIn.cons rfl ?_)) (by repeat (first | exact BxIn.nil | refine BxIn.cons rfl ?_)) rfl) ⟨by omega, by omega, by simp [hv]⟩ (by dsimp only; omega)
          ·
            repeat (first | refine Run.seq ?_ | refine Run.skip ?_ | refine Run.block ?_)
            refine Run.region ?_
            first | refine O.cmp rfl rfl rfl (by first | exact decide_eq_true (by omega) | exact decide_eq_false (by omega)) rfl ?_ | refine O.cmp rfl rfl rfl rfl rfl ?_
            refine O.nil ?_
            try refine Run.keep [0, 1, 2, 3, 4, 5, 6, 7, 8, 9, 10, 11, 12, 13, 14, 15, 16, 17, 18, 19, 20, 21, 56, 99, 100, 181, 182] rfl rfl ?_
            repeat (first | refine Run.seq ?_ | refine Run.skip ?_)
            first | refine Run.condT rfl rfl ?_ | refine Run.condF rfl rfl ?_ | refine Run.condT rfl (by assumption) ?_ | refine Run.condF rfl (by assumption) ?_
            refine Run.exit ?_
            repeat (first | refine thenR_exit ?_ | refine roundR_exit ?_ | refine blockR_exit ?_ | refine blockR_pass rfl ?_)
            repeat (first | refine Run.seq ?_ | refine Run.skip ?_ | refine Run.block ?_)
            refine Run.region ?_
            first | refine O.loadA hE T68 rfl rfl rfl (ints_take (by assumption)) (by simp [ints_len, *]) rfl ?_ | refine O.load hE T68 rfl rfl rfl rfl ?_
            first | refine O.storeS hE T68 rfl rfl (by first | rfl | exact cells_ones (by simp [ones_app, ones_ints, ones, AV.one, PV.one])) rfl (by first | rfl | simp [ints_len, *]) (by simp [ints_len, *] <;> omega) (by first | exact setAt_ints (by first | omega | (simp only [List.length_set]; omega)) | exact set8 (by simp [ints_len, *]) | exact setAt_all _ _ (by simp [ints_len, *])) ?_ | refine O.store hE T68 rfl rfl rfl rfl rfl rfl ?_
            refine O.nil ?_
            try refine Run.keep [0, 1, 2, 3, 4, 5, 6, 7, 8, 9, 10, 11, 12, 13, 14, 15, 16, 17, 18, 19, 20, 21, 56, 99, 100, 181, 182] rfl rfl ?_
            refine Run.ret ?_
            exact ⟨_, ⟨v, hv, rfl⟩, Ends.ex hE (.inr rfl) (.cell rfl rfl T68 rfl (by simp [ints_len, hv]) .nil) rfl (mens2_ints _)⟩
end Go.Proofs.YthpenjbpaegpgaaDoor.Vm
