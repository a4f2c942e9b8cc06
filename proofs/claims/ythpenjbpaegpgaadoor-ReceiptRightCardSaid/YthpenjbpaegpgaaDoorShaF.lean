/- SHA-256: bytes fed into a stream, one by one. Conditions: the table of steps has 64 words. -/
import Derived.Test.YthpenjbpaegpgaaDoorShaT
namespace Go.Proofs.YthpenjbpaegpgaaDoor.Vm
open Go Go.RowKit
set_option linter.unusedVariables false
set_option linter.unusedSimpArgs false
attribute [local irreducible] Ops Dr Run
variable {g : Nat → Option (List PV)}
theorem turn_fn {ks : List Int} (hg : g 0 = some (ks.map (PV.int .u32))) (hk : ks.length = 64) : ∃ T : List Int → List Int → List Int, ∀ H B, H.length = 8 → B.length = 64 → (T H B).length = 8 ∧ FnC (En Tryd.prog g) 39 [.agg (ints .u32 H), .agg (ints .u8 B)] (.agg (ints .u32 (T H B))) [] := by
  refine ⟨fun H B => if h : H.length = 8 ∧ B.length = 64 then Classical.choose (turn_ex hg hk H B h.1 h.2) else [], fun H B h1 h2 => ?_⟩
  dsimp only
  rw [dif_pos ⟨h1, h2⟩]
  exact Classical.choose_spec (turn_ex hg hk H B h1 h2)
/-- A stream's state. -/
structure Sm where
  H : List Int
  B : List Int
  N : Int
  L : Int
abbrev strm (H B : List Int) (N L : Int) : List AV := ints .u32 H ++ (ints .u8 B ++ [.pv (.int .i64 N), .pv (.int .i64 L)])
abbrev smA (s : Sm) : AV := .agg (strm s.H s.B s.N s.L)
def Sm.ok (s : Sm) : Prop := s.H.length = 8 ∧ s.B.length = 64 ∧ 0 ≤ s.N ∧ s.N < 64
abbrev bys (l : List Int) : PV := .lst 1 (l.map (PV.int .u8))
def feed1 (T : List Int → List Int → List Int) (s : Sm) (c : Int) : Sm :=
  if s.N + 1 = 64 then ⟨T s.H (s.B.set s.N.toNat c), List.replicate 64 0, 0, s.L⟩ else ⟨s.H, s.B.set s.N.toNat c, s.N + 1, s.L⟩
def feedP (T : List Int → List Int → List Int) (s : Sm) (b : List Int) : Sm := b.foldl (feed1 T) ⟨s.H, s.B, s.N, s.L + b.length⟩
section
variable {H B : List Int} {N L : Int}
theorem st73 (hH : H.length = 8) (hB : B.length = 64) : (strm H B N L)[73]? = some (.pv (.int .i64 L)) := by
  unfold strm
  rw [List.getElem?_append_right (by rw [ints_len]; omega), List.getElem?_append_right (by rw [ints_len, ints_len]; omega), ints_len, ints_len, hH, hB]; rfl
theorem st72 (hH : H.length = 8) (hB : B.length = 64) : (strm H B N L)[72]? = some (.pv (.int .i64 N)) := by
  unfold strm
  rw [List.getElem?_append_right (by rw [ints_len]; omega), List.getElem?_append_right (by rw [ints_len, ints_len]; omega), ints_len, ints_len, hH, hB]; rfl
theorem se73 {x : Int} (hH : H.length = 8) (hB : B.length = 64) : setAt (strm H B N L) 73 [.pv (.int .i64 x)] = strm H B N x := by
  unfold strm
  rw [show 73 = (ints .u32 H).length + ((ints .u8 B).length + 1) by rw [ints_len, ints_len, hH, hB], setAt_right, setAt_right]; rfl
theorem se72 {x : Int} (hH : H.length = 8) (hB : B.length = 64) : setAt (strm H B N L) 72 [.pv (.int .i64 x)] = strm H B x L := by
  unfold strm
  rw [show 72 = (ints .u32 H).length + ((ints .u8 B).length + 0) by rw [ints_len, ints_len, hH, hB], setAt_right, setAt_right]; rfl
theorem se8 {x : Int} {i : Nat} (hH : H.length = 8) (hi : i < B.length) : setAt (strm H B N L) (0 + 8 + i) [.pv (.int .u8 x)] = strm H (B.set i x) N L := by
  unfold strm
  rw [show 0 + 8 + i = (ints .u32 H).length + i by rw [ints_len, hH], setAt_right, setAt_one _ _ _ (by rw [List.length_append, ints_len]; omega), List.set_append_left _ _ (by rw [ints_len]; exact hi), ints_set]
theorem se0 {X : List Int} (hH : H.length = 8) (hX : X.length = 8) : setAt (strm H B N L) 0 (ints .u32 X) = strm X B N L := by
  unfold strm
  rw [setAt_left _ _ _ (by rw [ints_len, ints_len, hH, hX])]
theorem se8a {X : List Int} (hH : H.length = 8) (hB : B.length = 64) (hX : X.length = 64) : setAt (strm H B N L) 8 (ints .u8 X) = strm H X N L := by
  unfold strm
  rw [show 8 = (ints .u32 H).length + 0 by rw [ints_len, hH], setAt_right, setAt_left _ _ _ (by rw [ints_len, ints_len, hB, hX])]
theorem tk0 (hH : H.length = 8) : ((strm H B N L).drop 0).take 8 = ints .u32 H := by
  unfold strm
  rw [List.drop_zero, List.take_left' (by rw [ints_len, hH])]
theorem tk8 (hH : H.length = 8) (hB : B.length = 64) : ((strm H B N L).drop 8).take 64 = ints .u8 B := by
  unfold strm
  rw [List.drop_left' (by rw [ints_len, hH]), List.take_left' (by rw [ints_len, hB])]
theorem tkS (hH : H.length = 8) (hB : B.length = 64) : ((strm H B N L).drop 0).take 74 = strm H B N L := by
  rw [List.drop_zero, List.take_of_length_le]
  unfold strm
  simp [ints_len, hH, hB]
theorem bys_at {l : List Int} {i : Nat} (h : i < l.length) : (l.map (PV.int .u8))[i]? = some (.int .u8 (l.getD i 0)) := by
  simp [List.getElem?_map, List.getElem?_eq_getElem h, List.getD_eq_getElem?_getD]
end
theorem feed1_ok {T : List Int → List Int → List Int} (hT : ∀ H B : List Int, H.length = 8 → B.length = 64 → (T H B).length = 8) {s : Sm} (h : s.ok) (c : Int) : (feed1 T s c).ok := by
  obtain ⟨h1, h2, h3, h4⟩ := h
  unfold feed1
  split
  · exact ⟨hT _ _ h1 (by simp [h2]), by simp, by simp, by simp⟩
  · exact ⟨h1, by simp [h2], by dsimp only; omega, by dsimp only; omega⟩
theorem feed1_L {T : List Int → List Int → List Int} (s : Sm) (c : Int) : (feed1 T s c).L = s.L := by
  unfold feed1
  split <;> rfl
theorem fold_ok {T : List Int → List Int → List Int} (hT : ∀ H B : List Int, H.length = 8 → B.length = 64 → (T H B).length = 8) : ∀ (b : List Int) (s : Sm), s.ok → (b.foldl (feed1 T) s).ok ∧ (b.foldl (feed1 T) s).L = s.L
  | [], s, h => ⟨h, rfl⟩
  | c :: b, s, h => by
    obtain ⟨e1, e2⟩ := fold_ok hT b _ (feed1_ok hT h c)
    exact ⟨e1, e2.trans (feed1_L s c)⟩
theorem feedP_ok {T : List Int → List Int → List Int} (hT : ∀ H B : List Int, H.length = 8 → B.length = 64 → (T H B).length = 8) {s : Sm} (h : s.ok) (b : List Int) : (feedP T s b).ok ∧ (feedP T s b).L = s.L + b.length := fold_ok hT b ⟨s.H, s.B, s.N, s.L + b.length⟩ h
theorem fnFeed {T : List Int → List Int → List Int} (hT : ∀ H B, H.length = 8 → B.length = 64 → (T H B).length = 8 ∧ FnC (En Tryd.prog g) 39 [.agg (ints .u32 H), .agg (ints .u8 B)] (.agg (ints .u32 (T H B))) []) {s : Sm} (hs : s.ok) {b : List Int} (h0 : 0 ≤ s.L) (h1 : s.L + b.length < 9223372036854775808) :
    FnC (En Tryd.prog g) 36 [smA s, .pv (bys b)] (smA (feedP T s b)) [] := by
  have hE := EnOk g
  have hT1 : ∀ H B : List Int, H.length = 8 → B.length = 64 → (T H B).length = 8 := fun H B h1 h2 => (hT H B h1 h2).1
  have hT2 := fun H B (h1 : List.length H = 8) (h2 : List.length B = 64) => (hT H B h1 h2).2
  obtain ⟨fin, hfin⟩ : ∃ f, feedP T s b = f := ⟨_, rfl⟩
  have hfok := hfin ▸ (feedP_ok hT1 hs b).1
  rw [hfin]
  obtain ⟨H0, B0, N0, L0⟩ := s
  obtain ⟨hH, hB, hN0, hN1⟩ := hs
  dsimp only at hH hB hN0 hN1 h0 h1
  obtain ⟨Z, hZl, hZ⟩ : ∃ Z : List AV, Z.length = 74 ∧ (TI.zero ((tyL 70).getD ⟨.oth, 0, 0, []⟩)).map AV.pv = Z := ⟨_, rfl, rfl⟩
  refine FnC.of Tryd.func36 rfl rfl rfl rfl ?_
  repeat (first | refine Run.seq ?_ | refine Run.skip ?_ | refine Run.block ?_)
  refine Run.region ?_
  refine O.box 2 rfl (by first | rfl | exact cells_ones (by simp [ones_app, ones_ints, ones, AV.one, PV.one])) rfl rfl ?_
  refine O.allocS hE 4 T70 hZ rfl rfl ?_
  refine O.nil ?_
  try refine Run.keep [0, 1, 2, 4, 6, 13, 14, 15, 16, 30] rfl rfl ?_
  clear hZ
  repeat (first | refine Run.seq ?_ | refine Run.skip ?_ | refine Run.block ?_)
  refine Run.region ?_
  refine O.field hE L70 rfl rfl rfl rfl ?_
  first | refine O.loadS hE T3 rfl rfl rfl (by first | exact st73 (by assumption) (by assumption) | exact st72 (by assumption) (by assumption)) rfl ?_ | refine O.loadE hE T3 rfl rfl (by rfl) rfl ?_ | refine O.load hE T3 rfl rfl rfl rfl ?_
  refine O.move rfl rfl ?_
  refine O.lenLst hE T31 rfl rfl rfl (by first | exact newest_pv | exact newest_gl rfl rfl | trivial) rfl ?_
  first | refine O.ar rfl rfl rfl (by exact wrap_i64 (by omega) (by omega)) rfl ?_ | refine O.ar rfl rfl rfl rfl rfl ?_
  refine O.field hE L70 rfl rfl rfl rfl ?_
  first | refine O.storeS hE T3 rfl rfl (by first | rfl | exact cells_ones (by simp [ones_app, ones_ints, ones, AV.one, PV.one])) rfl (by first | rfl | simp [ints_len, *]) (by simp [ints_len, *] <;> omega) (by first | exact se73 (by assumption) (by first | assumption | simp [*]) | exact se72 (by assumption) (by first | assumption | simp [*]) | exact se8 (by assumption) (by omega) | exact se0 (by assumption) (by assumption) | exact se8a (by assumption) (by first | assumption | simp [*]) (by simp) | exact setAt_all _ _ (by simp [ints_len, *])) ?_ | refine O.store hE T3 rfl rfl rfl rfl rfl rfl ?_
  refine O.nil ?_
  try refine Run.keep [0, 1, 2, 4, 6, 13, 14, 15, 16, 30] rfl rfl ?_
  have hlen : (b.map (PV.int .u8)).length = b.length := by simp
  repeat (first | refine Run.seq ?_ | refine Run.skip ?_ | refine Run.block ?_)
  refine Run.region ?_
  refine O.move rfl rfl ?_
  refine O.lenLst hE T31 rfl rfl rfl (by first | exact newest_pv | exact newest_gl rfl rfl | trivial) rfl ?_
  refine O.move rfl rfl ?_
  refine O.nil ?_
  try refine Run.keep [0, 1, 2, 4, 6, 13, 14, 15, 16, 30] rfl rfl ?_
  refine Run.block ?_
  refine Run.loopInv (ι := Nat × Sm) (fun p => p.1 ≤ b.length ∧ p.2.H.length = 8 ∧ p.2.B.length = 64 ∧ 0 ≤ p.2.N ∧ p.2.N < 64 ∧ (b.drop p.1).foldl (feed1 T) p.2 = fin) (fun p => ⟨42, [(2, .ptr 2 0), (4, .ptr 4 0), (13, .pv (bys b)), (14, .pv (.int .i64 (b.map (PV.int .u8)).length)), (15, .pv (.int .i64 p.1))], [(2, .var (strm p.2.H p.2.B p.2.N p.2.L)), (4, .var Z)]⟩) (fun p => b.length - p.1) (0, ⟨H0, B0, N0, L0 + b.length⟩) ⟨by omega, hH, hB, hN0, hN1, hfin⟩ ?_ ?_
  ·
    have e : IntKind.i64.wrap (L0 + (b.map (PV.int .u8)).length) = L0 + b.length := by rw [wrap_i64 (by omega) (by omega), hlen]
    refine SLe.eqv (by repeat (first | exact TmIn.nil | refine TmIn.cons rfl ?_)) (BxIn.cons ?_ (BxIn.cons rfl .nil)) rfl
    exact congrArg (fun z => some (Box.var (strm H0 B0 N0 z))) e
  have hbl : (b.length : Int) < 9223372036854775808 := by omega
  clear hN0 hN1 hH hB h0 hfin
  rintro ⟨i, H, B, N, L⟩ ⟨h0, hH, hB, hN0, hN1, hf⟩ ih
  dsimp only at h0 hH hB hN0 hN1 hf ih ⊢
  by_cases hi : i < b.length
  ·
    have hd : b.drop i = b.getD i 0 :: b.drop (i + 1) := by
      rw [List.drop_eq_getElem_cons hi, List.getD_eq_getElem?_getD, List.getElem?_eq_getElem hi]; rfl
    rw [hd, List.foldl_cons] at hf
    repeat (first | refine Run.seq ?_ | refine Run.skip ?_ | refine Run.block ?_)
    refine Run.region ?_
    first | refine O.cmp rfl rfl rfl (by first | exact decide_eq_true (by omega) | exact decide_eq_false (by omega)) rfl ?_ | refine O.cmp rfl rfl rfl rfl rfl ?_
    refine O.nil ?_
    try refine Run.keep [0, 1, 2, 4, 6, 13, 14, 15, 16, 30] rfl rfl ?_
    repeat (first | refine Run.seq ?_ | refine Run.skip ?_)
    first | refine Run.condT rfl rfl ?_ | refine Run.condF rfl rfl ?_ | refine Run.condT rfl (by assumption) ?_ | refine Run.condF rfl (by assumption) ?_
    have hBs : (B.set N.toNat (b.getD i 0)).length = 64 := by simp [hB]
    repeat (first | refine Run.seq ?_ | refine Run.skip ?_ | refine Run.block ?_)
    refine Run.region ?_
    refine O.index hE T31 rfl T5 rfl rfl (by first | exact newest_pv | exact newest_gl rfl rfl | trivial) rfl (by omega) (bys_at (by omega)) rfl rfl rfl ?_
    first | refine O.loadS hE T5 rfl rfl rfl (by first | exact st73 (by assumption) (by assumption) | exact st72 (by assumption) (by assumption)) rfl ?_ | refine O.loadE hE T5 rfl rfl (by rfl) rfl ?_ | refine O.load hE T5 rfl rfl rfl rfl ?_
    refine O.assign rfl rfl ?_
    refine O.nil ?_
    try refine Run.keep [0, 1, 2, 4, 6, 13, 14, 15, 16, 30] rfl rfl ?_
    repeat (first | refine Run.seq ?_ | refine Run.skip ?_ | refine Run.block ?_)
    refine Run.region ?_
    refine O.field hE L70 rfl rfl rfl rfl ?_
    first | refine O.loadS hE T3 rfl rfl rfl (by first | exact st73 (by assumption) (by assumption) | exact st72 (by assumption) (by assumption)) rfl ?_ | refine O.loadE hE T3 rfl rfl (by rfl) rfl ?_ | refine O.load hE T3 rfl rfl rfl rfl ?_
    refine O.move rfl rfl ?_
    refine O.field hE L70 rfl rfl rfl rfl ?_
    first | refine O.ixS hE T65 rfl T5 rfl rfl rfl (by omega) (by omega) rfl ?_ | refine O.ixE hE T65 rfl T5 rfl (glo_ev (by assumption)) rfl (by omega) (by omega) rfl ?_
    first | refine O.storeS hE T5 rfl rfl (by first | rfl | exact cells_ones (by simp [ones_app, ones_ints, ones, AV.one, PV.one])) rfl (by first | rfl | simp [ints_len, *]) (by simp [ints_len, *] <;> omega) (by first | exact se73 (by assumption) (by first | assumption | simp [*]) | exact se72 (by assumption) (by first | assumption | simp [*]) | exact se8 (by assumption) (by omega) | exact se0 (by assumption) (by assumption) | exact se8a (by assumption) (by first | assumption | simp [*]) (by simp) | exact setAt_all _ _ (by simp [ints_len, *])) ?_ | refine O.store hE T5 rfl rfl rfl rfl rfl rfl ?_
    refine O.nil ?_
    try refine Run.keep [0, 1, 2, 4, 6, 13, 14, 15, 16, 30] rfl rfl ?_
    repeat (first | refine Run.seq ?_ | refine Run.skip ?_ | refine Run.block ?_)
    refine Run.region ?_
    refine O.field hE L70 rfl rfl rfl rfl ?_
    first | refine O.loadS hE T3 rfl rfl rfl (by first | exact st73 (by assumption) (by assumption) | exact st72 (by assumption) (by assumption)) rfl ?_ | refine O.loadE hE T3 rfl rfl (by rfl) rfl ?_ | refine O.load hE T3 rfl rfl rfl rfl ?_
    first | refine O.ar rfl rfl rfl (by exact wrap_i64 (by omega) (by omega)) rfl ?_ | refine O.ar rfl rfl rfl rfl rfl ?_
    refine O.field hE L70 rfl rfl rfl rfl ?_
    first | refine O.storeS hE T3 rfl rfl (by first | rfl | exact cells_ones (by simp [ones_app, ones_ints, ones, AV.one, PV.one])) rfl (by first | rfl | simp [ints_len, *]) (by simp [ints_len, *] <;> omega) (by first | exact se73 (by assumption) (by first | assumption | simp [*]) | exact se72 (by assumption) (by first | assumption | simp [*]) | exact se8 (by assumption) (by omega) | exact se0 (by assumption) (by assumption) | exact se8a (by assumption) (by first | assumption | simp [*]) (by simp) | exact setAt_all _ _ (by simp [ints_len, *])) ?_ | refine O.store hE T3 rfl rfl rfl rfl rfl rfl ?_
    refine O.nil ?_
    try refine Run.keep [0, 1, 2, 4, 6, 13, 14, 15, 16, 30] rfl rfl ?_
    by_cases h64 : N + 1 = 64
    ·
      have hs : feed1 T ⟨H, B, N, L⟩ (b.getD i 0) = ⟨T H (B.set N.toNat (b.getD i 0)), List.replicate 64 0, 0, L⟩ := by unfold feed1; rw [if_pos h64]
      rw [hs] at hf
      have hTl := hT1 H (B.set N.toNat (b.getD i 0)) hH hBs
      repeat (first | refine Run.seq ?_ | refine Run.skip ?_ | refine Run.block ?_)
      refine Run.region ?_
      refine O.field hE L70 rfl rfl rfl rfl ?_
      first | refine O.loadS hE T3 rfl rfl rfl (by first | exact st73 (by assumption) (by assumption) | exact st72 (by assumption) (by assumption)) rfl ?_ | refine O.loadE hE T3 rfl rfl (by rfl) rfl ?_ | refine O.load hE T3 rfl rfl rfl rfl ?_
      first | refine O.cmp rfl rfl rfl (by first | exact decide_eq_true (by omega) | exact decide_eq_false (by omega)) rfl ?_ | refine O.cmp rfl rfl rfl rfl rfl ?_
      refine O.nil ?_
      try refine Run.keep [0, 1, 2, 4, 6, 13, 14, 15, 16, 30] rfl rfl ?_
      repeat (first | refine Run.seq ?_ | refine Run.skip ?_)
      first | refine Run.condT rfl rfl ?_ | refine Run.condF rfl rfl ?_ | refine Run.condT rfl (by assumption) ?_ | refine Run.condF rfl (by assumption) ?_
      repeat (first | refine Run.seq ?_ | refine Run.skip ?_ | refine Run.block ?_)
      refine Run.region ?_
      refine O.field hE L70 rfl rfl rfl rfl ?_
      first | refine O.loadA hE T68 rfl rfl rfl (by first | exact tk0 (by assumption) | exact tk8 (by assumption) (by first | assumption | simp [*]) | exact tkS (by assumption) (by assumption)) (by simp [ints_len, *]) rfl ?_ | refine O.load hE T68 rfl rfl rfl rfl ?_
      refine O.field hE L70 rfl rfl rfl rfl ?_
      first | refine O.loadA hE T65 rfl rfl rfl (by first | exact tk0 (by assumption) | exact tk8 (by assumption) (by first | assumption | simp [*]) | exact tkS (by assumption) (by assumption)) (by simp [ints_len, *]) rfl ?_ | refine O.load hE T65 rfl rfl rfl rfl ?_
      refine O.callE (hT2 H (B.set N.toNat (b.getD i 0)) hH hBs) rfl (by first | rfl | simp [closed, men3, mens2_app, mens2_ints, mens2, men2, men1, mens1_app, mens1_ints, mens1]) (by first | rfl | simp [d2, ds1_ints, ds1_app, ds1, d1, ds0_app, ds0_ints, ds0, d0]) rfl ?_
      refine O.field hE L70 rfl rfl rfl rfl ?_
      first | refine O.storeS hE T68 rfl rfl (by first | rfl | exact cells_ones (by simp [ones_app, ones_ints, ones, AV.one, PV.one])) rfl (by first | rfl | simp [ints_len, *]) (by simp [ints_len, *] <;> omega) (by first | exact se73 (by assumption) (by first | assumption | simp [*]) | exact se72 (by assumption) (by first | assumption | simp [*]) | exact se8 (by assumption) (by omega) | exact se0 (by assumption) (by assumption) | exact se8a (by assumption) (by first | assumption | simp [*]) (by simp) | exact setAt_all _ _ (by simp [ints_len, *])) ?_ | refine O.store hE T68 rfl rfl rfl rfl rfl rfl ?_
      refine O.nil ?_
      try refine Run.keep [0, 1, 2, 4, 6, 13, 14, 15, 16, 30] rfl rfl ?_
      repeat (first | refine Run.seq ?_ | refine Run.skip ?_ | refine Run.block ?_)
      refine Run.region ?_
      refine O.build0 hE T65 rfl T5 ints_zero rfl ?_
      refine O.field hE L70 rfl rfl rfl rfl ?_
      first | refine O.storeS hE T65 rfl rfl (by first | rfl | exact cells_ones (by simp [ones_app, ones_ints, ones, AV.one, PV.one])) rfl (by first | rfl | simp [ints_len, *]) (by simp [ints_len, *] <;> omega) (by first | exact se73 (by assumption) (by first | assumption | simp [*]) | exact se72 (by assumption) (by first | assumption | simp [*]) | exact se8 (by assumption) (by omega) | exact se0 (by assumption) (by assumption) | exact se8a (by assumption) (by first | assumption | simp [*]) (by simp) | exact setAt_all _ _ (by simp [ints_len, *])) ?_ | refine O.store hE T65 rfl rfl rfl rfl rfl rfl ?_
      refine O.nil ?_
      try refine Run.keep [0, 1, 2, 4, 6, 13, 14, 15, 16, 30] rfl rfl ?_
      repeat (first | refine Run.seq ?_ | refine Run.skip ?_ | refine Run.block ?_)
      refine Run.region ?_
      refine O.field hE L70 rfl rfl rfl rfl ?_
      first | refine O.storeS hE T3 rfl rfl (by first | rfl | exact cells_ones (by simp [ones_app, ones_ints, ones, AV.one, PV.one])) rfl (by first | rfl | simp [ints_len, *]) (by simp [ints_len, *] <;> omega) (by first | exact se73 (by assumption) (by first | assumption | simp [*]) | exact se72 (by assumption) (by first | assumption | simp [*]) | exact se8 (by assumption) (by omega) | exact se0 (by assumption) (by assumption) | exact se8a (by assumption) (by first | assumption | simp [*]) (by simp) | exact setAt_all _ _ (by simp [ints_len, *])) ?_ | refine O.store hE T3 rfl rfl rfl rfl rfl rfl ?_
      refine O.nil ?_
      try refine Run.keep [0, 1, 2, 4, 6, 13, 14, 15, 16, 30] rfl rfl ?_
      repeat (first | refine Run.seq ?_ | refine Run.skip ?_ | refine Run.block ?_)
      refine Run.region ?_
      first | refine O.ar rfl rfl rfl (by exact wrap_i64 (by omega) (by omega)) rfl ?_ | refine O.ar rfl rfl rfl rfl rfl ?_
      refine O.move rfl rfl ?_
      refine O.nil ?_
      try refine Run.keep [0, 1, 2, 4, 6, 13, 14, 15, 16, 30] rfl rfl ?_
      exact ih (i + 1, ⟨T H (B.set N.toNat (b.getD i 0)), List.replicate 64 0, 0, L⟩) _ (by refine SLe.eqv (by repeat (first | exact TmIn.nil | refine TmIn.cons rfl ?_)) (by repeat (first | exact BxIn.nil | refine BxIn.cons rfl ?_)) rfl) ⟨by omega, hTl, by simp, by dsimp only; omega, by dsimp only; omega, hf⟩ (by dsimp only; omega)
    ·
      have hs : feed1 T ⟨H, B, N, L⟩ (b.getD i 0) = ⟨H, B.set N.toNat (b.getD i 0), N + 1, L⟩ := by unfold feed1; rw [if_neg h64]
      rw [hs] at hf
      repeat (first | refine Run.seq ?_ | refine Run.skip ?_ | refine Run.block ?_)
      refine Run.region ?_
      refine O.field hE L70 rfl rfl rfl rfl ?_
      first | refine O.loadS hE T3 rfl rfl rfl (by first | exact st73 (by assumption) (by assumption) | exact st72 (by assumption) (by assumption)) rfl ?_ | refine O.loadE hE T3 rfl rfl (by rfl) rfl ?_ | refine O.load hE T3 rfl rfl rfl rfl ?_
      first | refine O.cmp rfl rfl rfl (by first | exact decide_eq_true (by omega) | exact decide_eq_false (by omega)) rfl ?_ | refine O.cmp rfl rfl rfl rfl rfl ?_
      refine O.nil ?_
      try refine Run.keep [0, 1, 2, 4, 6, 13, 14, 15, 16, 30] rfl rfl ?_
      repeat (first | refine Run.seq ?_ | refine Run.skip ?_)
      first | refine Run.condT rfl rfl ?_ | refine Run.condF rfl rfl ?_ | refine Run.condT rfl (by assumption) ?_ | refine Run.condF rfl (by assumption) ?_
      repeat (first | refine Run.seq ?_ | refine Run.skip ?_ | refine Run.block ?_)
      refine Run.region ?_
      first | refine O.ar rfl rfl rfl (by exact wrap_i64 (by omega) (by omega)) rfl ?_ | refine O.ar rfl rfl rfl rfl rfl ?_
      refine O.move rfl rfl ?_
      refine O.nil ?_
      try refine Run.keep [0, 1, 2, 4, 6, 13, 14, 15, 16, 30] rfl rfl ?_
      exact ih (i + 1, ⟨H, B.set N.toNat (b.getD i 0), N + 1, L⟩) _ (by refine SLe.eqv (by repeat (first | exact TmIn.nil | refine TmIn.cons rfl ?_)) (by repeat (first | exact BxIn.nil | refine BxIn.cons rfl ?_)) rfl) ⟨by omega, hH, hBs, by dsimp only; omega, by dsimp only; omega, hf⟩ (by dsimp only; omega)
  ·
    have hd : b.drop i = [] := List.drop_eq_nil_of_le (by omega)
    rw [hd] at hf
    obtain rfl : fin = ⟨H, B, N, L⟩ := hf.symm
    repeat (first | refine Run.seq ?_ | refine Run.skip ?_ | refine Run.block ?_)
    refine Run.region ?_
    first | refine O.cmp rfl rfl rfl (by first | exact decide_eq_true (by omega) | exact decide_eq_false (by omega)) rfl ?_ | refine O.cmp rfl rfl rfl rfl rfl ?_
    refine O.nil ?_
    try refine Run.keep [0, 1, 2, 4, 6, 13, 14, 15, 16, 30] rfl rfl ?_
    repeat (first | refine Run.seq ?_ | refine Run.skip ?_)
    first | refine Run.condT rfl rfl ?_ | refine Run.condF rfl rfl ?_ | refine Run.condT rfl (by assumption) ?_ | refine Run.condF rfl (by assumption) ?_
    refine Run.exit ?_
    repeat (first | refine thenR_exit ?_ | refine roundR_exit ?_ | refine blockR_exit ?_ | refine blockR_pass rfl ?_)
    repeat (first | refine Run.seq ?_ | refine Run.skip ?_ | refine Run.block ?_)
    refine Run.region ?_
    first | refine O.loadA hE T70 rfl rfl rfl (by first | exact tk0 (by assumption) | exact tk8 (by assumption) (by first | assumption | simp [*]) | exact tkS (by assumption) (by assumption)) (by simp [ints_len, *]) rfl ?_ | refine O.load hE T70 rfl rfl rfl rfl ?_
    first | refine O.storeS hE T70 rfl rfl (by first | rfl | exact cells_ones (by simp [ones_app, ones_ints, ones, AV.one, PV.one])) rfl (by first | rfl | simp [ints_len, *]) (by simp [ints_len, *] <;> omega) (by first | exact se73 (by assumption) (by first | assumption | simp [*]) | exact se72 (by assumption) (by first | assumption | simp [*]) | exact se8 (by assumption) (by omega) | exact se0 (by assumption) (by assumption) | exact se8a (by assumption) (by first | assumption | simp [*]) (by simp) | exact setAt_all _ _ (by simp [ints_len, *])) ?_ | refine O.store hE T70 rfl rfl rfl rfl rfl rfl ?_
    refine O.nil ?_
    try refine Run.keep [0, 1, 2, 4, 6, 13, 14, 15, 16, 30] rfl rfl ?_
    refine Run.ret ?_
    exact Ends.ex hE (.inr rfl) (ys := [.agg (strm H B N L)]) (.cell rfl rfl T70 rfl (by simp [ints_len, hH, hB]) .nil) rfl (by simp [men3, mens2_app, mens2_ints, mens2, men2, men1])
end Go.Proofs.YthpenjbpaegpgaaDoor.Vm
