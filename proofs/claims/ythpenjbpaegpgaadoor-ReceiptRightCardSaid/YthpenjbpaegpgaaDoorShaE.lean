/- SHA-256: the end of a stream, and the sum of bytes. Conditions: the table of steps has 64 words. -/
import Derived.Test.YthpenjbpaegpgaaDoorShaF
import Derived.Test.YthpenjbpaegpgaaDoorVmEnv
namespace Go.Proofs.YthpenjbpaegpgaaDoor.Vm
open Go Go.RowKit
set_option linter.unusedVariables false
set_option linter.unusedSimpArgs false
attribute [local irreducible] Ops Dr Run
variable {g : Nat → Option (List PV)}
theorem stH {H B : List Int} {N L : Int} {o : Nat} (hH : H.length = 8) (ho : o < 8) : (strm H B N L)[o]? = some (.pv (.int .u32 (H.getD o 0))) := by
  unfold strm
  rw [List.getElem?_append_left (by rw [ints_len]; omega), ints_at (by omega)]
theorem setS {H B H' B' : List Int} {N L N' L' : Int} (hH : H.length = 8) (hB : B.length = 64) (hH' : H'.length = 8) (hB' : B'.length = 64) : setAt (strm H B N L) 0 (strm H' B' N' L') = strm H' B' N' L' :=
  setAt_all _ _ (by unfold strm; simp [ints_len, *])
def padF (T : List Int → List Int → List Int) : Nat → Sm → Sm
  | 0, s => s
  | n + 1, s => if s.N = 56 then s else padF T n (feedP T s [0])
def byteF (n i : Int) : Int := IntKind.u8.wrap (n.fdiv (2 ^ (min i.toNat IntKind.u64.bits)))
def lenF (T : List Int → List Int → List Int) (n : Int) (k : Nat) (s : Sm) : Sm := ((List.range k).reverse).foldl (fun s (j : Nat) => feedP T s [byteF n (8 * (j : Int))]) s
def outF (H : List Int) (i : Int) : Int := IntKind.u8.wrap ((H.getD (0 + 0 + (i / 4).toNat) 0).fdiv (2 ^ (min (24 - 8 * (i % 4)).toNat IntKind.u32.bits)))
def endP (T : List Int → List Int → List Int) (s : Sm) : List Int :=
  (List.range 32).map fun (j : Nat) => outF (lenF T (IntKind.u64.wrap (IntKind.u64.wrap s.L * 8)) 8 (padF T 64 (feedP T s [128]))).H j
def begin0 : Sm := ⟨[1779033703, 3144134277, 1013904242, 2773480762, 1359893119, 2600822924, 528734635, 1541459225], List.replicate 64 0, 0, 0⟩
def sumP (T : List Int → List Int → List Int) (b : List Int) : List Int := endP T (feedP T begin0 b)
theorem begin_ok : begin0.ok := ⟨rfl, rfl, by decide, by decide⟩
theorem feedP_one {T : List Int → List Int → List Int} (s : Sm) (c : Int) : (feedP T s [c]).N = (if s.N + 1 = 64 then 0 else s.N + 1) := by
  unfold feedP feed1
  simp only [List.foldl_cons, List.foldl_nil]
  split <;> rfl
theorem fnBegin : FnC (En Tryd.prog g) 37 [] (smA begin0) [] := by
  have hE := EnOk g
  refine FnC.of Tryd.func37 rfl rfl rfl rfl ?_
  refine Run.seq (Run.region ?_)
  refine O.alloc hE 0 T70 rfl rfl rfl ?_
  refine O.nil ?_
  refine Run.seq (Run.region ?_)
  refine O.buildArr hE T68 rfl T67 rfl rfl rfl ?_
  refine O.build hE T70 L70 rfl rfl rfl ?_
  refine O.store hE T70 rfl rfl rfl rfl rfl rfl ?_
  refine O.nil ?_
  refine Run.ret ?_
  exact Ends.ex hE (.inr rfl) (.cell rfl rfl T70 rfl rfl .nil) rfl rfl
def Feeds (g : Nat → Option (List PV)) (T : List Int → List Int → List Int) : Prop := (∀ H B : List Int, H.length = 8 → B.length = 64 → (T H B).length = 8) ∧
  ∀ (s : Sm) (b : List Int), s.ok → 0 ≤ s.L → s.L + b.length < 9223372036854775808 → FnC (En Tryd.prog g) 36 [smA s, .pv (bys b)] (smA (feedP T s b)) []
theorem feeds {T : List Int → List Int → List Int} (hT : ∀ H B, H.length = 8 → B.length = 64 → (T H B).length = 8 ∧ FnC (En Tryd.prog g) 39 [.agg (ints .u32 H), .agg (ints .u8 B)] (.agg (ints .u32 (T H B))) []) : Feeds g T :=
  ⟨fun H B h1 h2 => (hT H B h1 h2).1, fun s b hs h0 h1 => fnFeed hT hs h0 h1⟩
theorem fnEnd {T : List Int → List Int → List Int} (hT : Feeds g T) {s : Sm} (hs : s.ok) (h0 : 0 ≤ s.L) (h1 : s.L < 4611686018427387904) : FnC (En Tryd.prog g) 35 [smA s] (.agg (ints .u8 (endP T s))) [] := by
  have hE := EnOk g
  obtain ⟨hT1, hF⟩ := hT
  obtain ⟨H, B, N, L⟩ := s
  obtain ⟨hH, hB, hN0, hN1⟩ := hs
  dsimp only at hH hB hN0 hN1 h0 h1
  obtain ⟨fin, hfin⟩ : ∃ f, endP T ⟨H, B, N, L⟩ = f := ⟨_, rfl⟩
  rw [hfin]
  unfold endP at hfin
  dsimp only at hfin
  have c0 := hF ⟨H, B, N, L⟩ [128] ⟨hH, hB, hN0, hN1⟩ h0 (by simp; omega)
  obtain ⟨⟨g1, g2, g3, g4⟩, g5⟩ := feedP_ok hT1 (s := ⟨H, B, N, L⟩) ⟨hH, hB, hN0, hN1⟩ [128]
  generalize feedP T ⟨H, B, N, L⟩ [128] = s1 at *
  obtain ⟨H1, B1, N1, L1⟩ := s1
  dsimp only at g1 g2 g3 g4 g5
  obtain ⟨n, hn⟩ : ∃ n, IntKind.u64.wrap (IntKind.u64.wrap L * 8) = n := ⟨_, rfl⟩
  rw [hn] at hfin
  refine FnC.of Tryd.func35 rfl rfl rfl rfl ?_
  repeat (first | refine Run.seq ?_ | refine Run.skip ?_ | refine Run.block ?_)
  refine Run.region ?_
  refine O.box 1 rfl (by first | rfl | exact cells_ones (by simp [ones_app, ones_ints, ones, AV.one, PV.one])) rfl rfl ?_
  first | refine O.allocS hE 2 T55 ints_zero rfl rfl ?_ | refine O.alloc hE 2 T55 rfl rfl rfl ?_
  refine O.nil ?_
  try refine Run.keep [0, 1, 2, 3, 4, 5, 6, 16, 21, 31, 32] rfl rfl ?_
  repeat (first | refine Run.seq ?_ | refine Run.skip ?_ | refine Run.block ?_)
  refine Run.region ?_
  refine O.field hE L70 rfl rfl rfl rfl ?_
  first | refine O.loadS hE T3 rfl rfl rfl (by first | exact st73 (by assumption) (by first | assumption | simp [*]) | exact st72 (by assumption) (by first | assumption | simp [*]) | exact stH (by assumption) (by omega)) rfl ?_ | refine O.loadE hE T3 rfl rfl (by rfl) rfl ?_ | refine O.load hE T3 rfl rfl rfl rfl ?_
  refine O.conv hE T3 T73 rfl rfl rfl ?_
  refine O.ar rfl rfl rfl rfl rfl ?_
  refine O.assign rfl rfl ?_
  refine O.nil ?_
  try refine Run.keep [0, 1, 2, 3, 4, 5, 6, 16, 21, 31, 32] rfl rfl ?_
  repeat (first | refine Run.seq ?_ | refine Run.skip ?_ | refine Run.block ?_)
  refine Run.region ?_
  first | refine O.loadA hE T70 rfl rfl rfl (by first | exact ints_take (by simp [*]) | exact tk0 (by assumption) | exact tk8 (by assumption) (by first | assumption | simp [*]) | exact tkS (by assumption) (by assumption)) (by simp [ints_len, *]) rfl ?_ | refine O.load hE T70 rfl rfl rfl rfl ?_
  refine O.litV hE T31 rfl T5 rfl rfl rfl rfl rfl rfl rfl ?_
  refine O.callE c0 rfl (by first | rfl | simp [closed, men3, mens2_app, mens2_ints, mens2, men2, men1, mens1_app, mens1_ints, mens1]) (by first | rfl | simp [d2, ds1_ints, ds1_app, ds1, d1, ds0_app, ds0_ints, ds0, d0]) rfl ?_
  first | refine O.storeS hE T70 rfl rfl (by first | rfl | exact cells_ones (by simp [ones_app, ones_ints, ones, AV.one, PV.one])) rfl (by first | rfl | simp [ints_len, *]) (by simp [ints_len, *] <;> omega) (by first | exact setS (by assumption) (by assumption) (by assumption) (by assumption) | exact setAt_ints (by first | omega | (simp only [List.length_set]; omega)) | exact setAt_all _ _ (by simp [ints_len, *])) ?_ | refine O.store hE T70 rfl rfl rfl rfl rfl rfl ?_
  refine O.nil ?_
  try refine Run.keep [0, 1, 2, 3, 4, 5, 6, 16, 21, 31, 32] rfl rfl ?_
  repeat (first | refine Run.seq ?_ | refine Run.skip ?_)
  refine Run.block ?_
  refine Run.loopInv (ι := Nat × Sm) (fun p => p.2.H.length = 8 ∧ p.2.B.length = 64 ∧ 0 ≤ p.2.N ∧ p.2.N < 64 ∧ 0 ≤ p.2.L ∧ p.2.L + p.1 < 4611686018427388000 ∧ (120 - p.2.N) % 64 ≤ p.1 ∧ (List.range 32).map (fun (j : Nat) => outF (lenF T n 8 (padF T p.1 p.2)).H j) = fin)
    (fun p => ⟨49, [(1, .ptr 1 0), (2, .ptr 2 0), (3, .pv (.int .u64 n))], [(1, .var (strm p.2.H p.2.B p.2.N p.2.L)), (2, .var (ints .u8 (List.replicate 32 0)))]⟩) (fun p => p.1) (64, ⟨H1, B1, N1, L1⟩) ⟨g1, g2, g3, g4, by simp at g5 ⊢; omega, by simp at g5 ⊢; omega, by dsimp only; omega, hfin⟩ ?_ ?_
  ·
    subst hn
    refine SLe.eqv (by repeat (first | exact TmIn.nil | refine TmIn.cons rfl ?_)) (by repeat (first | exact BxIn.nil | refine BxIn.cons rfl ?_)) rfl
  clear hfin c0 g1 g2 g3 g4 g5 hH hB hN0 hN1 h0 h1 hn
  rintro ⟨k, H, B, N, L⟩ ⟨hH, hB, hN0, hN1, hL0, hL1, hk, hf⟩ ih
  dsimp only at hH hB hN0 hN1 hL0 hL1 hk hf ih ⊢
  by_cases h56 : N ≠ 56
  ·
    obtain ⟨k', rfl⟩ : ∃ k', k = k' + 1 := ⟨k - 1, by omega⟩
    have hp : padF T (k' + 1) ⟨H, B, N, L⟩ = padF T k' (feedP T ⟨H, B, N, L⟩ [0]) := by
      show (if N = 56 then _ else _) = _
      rw [if_neg h56]
    rw [hp] at hf
    have c0 := hF ⟨H, B, N, L⟩ [0] ⟨hH, hB, hN0, hN1⟩ hL0 (by simp; omega)
    have e := feedP_one (T := T) ⟨H, B, N, L⟩ 0
    obtain ⟨⟨g1, g2, g3, g4⟩, g5⟩ := feedP_ok hT1 (s := ⟨H, B, N, L⟩) ⟨hH, hB, hN0, hN1⟩ [0]
    generalize feedP T ⟨H, B, N, L⟩ [0] = s1 at *
    obtain ⟨H1, B1, N1, L1⟩ := s1
    dsimp only at g1 g2 g3 g4 g5 e
    repeat (first | refine Run.seq ?_ | refine Run.skip ?_ | refine Run.block ?_)
    refine Run.region ?_
    refine O.field hE L70 rfl rfl rfl rfl ?_
    first | refine O.loadS hE T3 rfl rfl rfl (by first | exact st73 (by assumption) (by first | assumption | simp [*]) | exact st72 (by assumption) (by first | assumption | simp [*]) | exact stH (by assumption) (by omega)) rfl ?_ | refine O.loadE hE T3 rfl rfl (by rfl) rfl ?_ | refine O.load hE T3 rfl rfl rfl rfl ?_
    first | refine O.cmp rfl rfl rfl (by first | exact decide_eq_true (by omega) | exact decide_eq_false (by omega)) rfl ?_ | refine O.cmp rfl rfl rfl rfl rfl ?_
    refine O.nil ?_
    try refine Run.keep [0, 1, 2, 3, 4, 5, 6, 16, 21, 31, 32] rfl rfl ?_
    repeat (first | refine Run.seq ?_ | refine Run.skip ?_)
    first | refine Run.condT rfl rfl ?_ | refine Run.condF rfl rfl ?_ | refine Run.condT rfl (by assumption) ?_ | refine Run.condF rfl (by assumption) ?_
    repeat (first | refine Run.seq ?_ | refine Run.skip ?_ | refine Run.block ?_)
    refine Run.region ?_
    first | refine O.loadA hE T70 rfl rfl rfl (by first | exact ints_take (by simp [*]) | exact tk0 (by assumption) | exact tk8 (by assumption) (by first | assumption | simp [*]) | exact tkS (by assumption) (by assumption)) (by simp [ints_len, *]) rfl ?_ | refine O.load hE T70 rfl rfl rfl rfl ?_
    refine O.litV hE T31 rfl T5 rfl rfl rfl rfl rfl rfl rfl ?_
    refine O.callE c0 rfl (by first | rfl | simp [closed, men3, mens2_app, mens2_ints, mens2, men2, men1, mens1_app, mens1_ints, mens1]) (by first | rfl | simp [d2, ds1_ints, ds1_app, ds1, d1, ds0_app, ds0_ints, ds0, d0]) rfl ?_
    first | refine O.storeS hE T70 rfl rfl (by first | rfl | exact cells_ones (by simp [ones_app, ones_ints, ones, AV.one, PV.one])) rfl (by first | rfl | simp [ints_len, *]) (by simp [ints_len, *] <;> omega) (by first | exact setS (by assumption) (by assumption) (by assumption) (by assumption) | exact setAt_ints (by first | omega | (simp only [List.length_set]; omega)) | exact setAt_all _ _ (by simp [ints_len, *])) ?_ | refine O.store hE T70 rfl rfl rfl rfl rfl rfl ?_
    refine O.nil ?_
    try refine Run.keep [0, 1, 2, 3, 4, 5, 6, 16, 21, 31, 32] rfl rfl ?_
    have hN1' : (120 - N1) % 64 ≤ (k' : Int) := by split at e <;> omega
    exact ih (k', ⟨H1, B1, N1, L1⟩) _ (by refine SLe.eqv (by repeat (first | exact TmIn.nil | refine TmIn.cons rfl ?_)) (by repeat (first | exact BxIn.nil | refine BxIn.cons rfl ?_)) rfl) ⟨g1, g2, g3, g4, by simp at g5 ⊢; omega, by simp at g5 ⊢; omega, hN1', hf⟩ (by dsimp only; omega)
  obtain rfl : N = 56 := by omega
  have hp : padF T k ⟨H, B, 56, L⟩ = ⟨H, B, 56, L⟩ := by
    cases k with
    | zero => rfl
    | succ k => show (if (56 : Int) = 56 then _ else _) = _; rw [if_pos rfl]
  rw [hp] at hf
  repeat (first | refine Run.seq ?_ | refine Run.skip ?_ | refine Run.block ?_)
  refine Run.region ?_
  refine O.field hE L70 rfl rfl rfl rfl ?_
  first | refine O.loadS hE T3 rfl rfl rfl (by first | exact st73 (by assumption) (by first | assumption | simp [*]) | exact st72 (by assumption) (by first | assumption | simp [*]) | exact stH (by assumption) (by omega)) rfl ?_ | refine O.loadE hE T3 rfl rfl (by rfl) rfl ?_ | refine O.load hE T3 rfl rfl rfl rfl ?_
  first | refine O.cmp rfl rfl rfl (by first | exact decide_eq_true (by omega) | exact decide_eq_false (by omega)) rfl ?_ | refine O.cmp rfl rfl rfl rfl rfl ?_
  refine O.nil ?_
  try refine Run.keep [0, 1, 2, 3, 4, 5, 6, 16, 21, 31, 32] rfl rfl ?_
  repeat (first | refine Run.seq ?_ | refine Run.skip ?_)
  first | refine Run.condT rfl rfl ?_ | refine Run.condF rfl rfl ?_ | refine Run.condT rfl (by assumption) ?_ | refine Run.condF rfl (by assumption) ?_
  refine Run.exit ?_
  repeat (first | refine thenR_exit ?_ | refine roundR_exit ?_ | refine blockR_exit ?_ | refine blockR_pass rfl ?_)
  repeat (first | refine Run.seq ?_ | refine Run.skip ?_ | refine Run.block ?_)
  refine Run.region ?_
  refine O.assign rfl rfl ?_
  refine O.nil ?_
  try refine Run.keep [0, 1, 2, 3, 4, 5, 6, 16, 21, 31, 32] rfl rfl ?_
  repeat (first | refine Run.seq ?_ | refine Run.skip ?_)
  refine Run.block ?_
  refine Run.loopInv (ι := Int × Nat × Sm) (fun p => p.1 = 8 * (p.2.1 : Int) - 8 ∧ p.2.1 ≤ 8 ∧ p.2.2.H.length = 8 ∧ p.2.2.B.length = 64 ∧ 0 ≤ p.2.2.N ∧ p.2.2.N < 64 ∧ 0 ≤ p.2.2.L ∧ p.2.2.L + p.2.1 < 4611686018427389000 ∧ (List.range 32).map (fun (j : Nat) => outF (lenF T n p.2.1 p.2.2).H j) = fin)
    (fun p => ⟨49, [(1, .ptr 1 0), (2, .ptr 2 0), (3, .pv (.int .u64 n)), (4, .pv (.int .i64 p.1))], [(1, .var (strm p.2.2.H p.2.2.B p.2.2.N p.2.2.L)), (2, .var (ints .u8 (List.replicate 32 0)))]⟩) (fun p => p.2.1) (56, 8, ⟨H, B, 56, L⟩) ⟨by dsimp only; omega, by dsimp only; omega, hH, hB, by dsimp only; omega, by dsimp only; omega, hL0, by dsimp only; omega, hf⟩ ?_ ?_
  ·
    refine SLe.eqv (by repeat (first | exact TmIn.nil | refine TmIn.cons rfl ?_)) (by repeat (first | exact BxIn.nil | refine BxIn.cons rfl ?_)) rfl
  clear hf ih hH hB hN0 hN1 hL0 hL1 hk hp h56
  rintro ⟨i, k, H, B, N, L⟩ ⟨hi, hk8, hH, hB, hN0, hN1, hL0, hL1, hf⟩ ih
  dsimp only at hi hk8 hH hB hN0 hN1 hL0 hL1 hf ih ⊢
  by_cases hk : 0 < k
  ·
    obtain ⟨k', rfl⟩ : ∃ k', k = k' + 1 := ⟨k - 1, by omega⟩
    have hi' : 8 * (k' : Int) = i := by omega
    have hp : lenF T n (k' + 1) ⟨H, B, N, L⟩ = lenF T n k' (feedP T ⟨H, B, N, L⟩ [byteF n i]) := by
      unfold lenF
      rw [List.range_succ, List.reverse_append, List.foldl_append]
      simp only [List.reverse_cons, List.reverse_nil, List.nil_append, List.foldl_cons, List.foldl_nil, hi']
    rw [hp] at hf
    have c0 := hF ⟨H, B, N, L⟩ [byteF n i] ⟨hH, hB, hN0, hN1⟩ hL0 (by simp; omega)
    obtain ⟨⟨g1, g2, g3, g4⟩, g5⟩ := feedP_ok hT1 (s := ⟨H, B, N, L⟩) ⟨hH, hB, hN0, hN1⟩ [byteF n i]
    generalize feedP T ⟨H, B, N, L⟩ [byteF n i] = s1 at *
    obtain ⟨H1, B1, N1, L1⟩ := s1
    dsimp only at g1 g2 g3 g4 g5
    have hi0 : 0 ≤ i := by omega
    repeat (first | refine Run.seq ?_ | refine Run.skip ?_ | refine Run.block ?_)
    refine Run.region ?_
    refine O.move rfl rfl ?_
    first | refine O.cmp rfl rfl rfl (by first | exact decide_eq_true (by omega) | exact decide_eq_false (by omega)) rfl ?_ | refine O.cmp rfl rfl rfl rfl rfl ?_
    refine O.nil ?_
    try refine Run.keep [0, 1, 2, 3, 4, 5, 6, 16, 21, 31, 32] rfl rfl ?_
    repeat (first | refine Run.seq ?_ | refine Run.skip ?_)
    first | refine Run.condT rfl rfl ?_ | refine Run.condF rfl rfl ?_ | refine Run.condT rfl (by assumption) ?_ | refine Run.condF rfl (by assumption) ?_
    repeat (first | refine Run.seq ?_ | refine Run.skip ?_ | refine Run.block ?_)
    refine Run.draw mixed rfl ?_
    first | refine D.loadA hE T70 rfl rfl rfl (by first | exact ints_take (by simp [*]) | exact tk0 (by assumption) | exact tk8 (by assumption) (by first | assumption | simp [*]) | exact tkS (by assumption) (by assumption)) (by simp [ints_len, *]) rfl ?_ | refine D.load hE T70 rfl rfl rfl rfl ?_
    refine D.move rfl rfl ?_
    refine D.move rfl rfl ?_
    refine D.shr rfl rfl (by first | omega | (exact wrap_nn rfl _)) rfl ?_
    refine D.conv hE T73 T5 rfl rfl rfl ?_
    refine D.litV hE T31 rfl T5 rfl rfl rfl rfl rfl rfl rfl ?_
    refine D.callE c0 rfl (by first | rfl | simp [closed, men3, mens2_app, mens2_ints, mens2, men2, men1, mens1_app, mens1_ints, mens1]) (by first | rfl | simp [d2, ds1_ints, ds1_app, ds1, d1, ds0_app, ds0_ints, ds0, d0]) rfl ?_
    first | refine D.storeS hE T70 rfl rfl (by first | rfl | exact cells_ones (by simp [ones_app, ones_ints, ones, AV.one, PV.one])) rfl (by first | rfl | simp [ints_len, *]) (by simp [ints_len, *] <;> omega) (by first | exact setS (by assumption) (by assumption) (by assumption) (by assumption) | exact setAt_ints (by first | omega | (simp only [List.length_set]; omega)) | exact setAt_all _ _ (by simp [ints_len, *])) ?_ | refine D.store hE T70 rfl rfl rfl rfl rfl rfl ?_
    refine Dr.nil ?_
    refine ⟨rfl, ?_⟩
    try refine Run.keep [0, 1, 2, 3, 4, 5, 6, 16, 21, 31, 32] rfl rfl ?_
    repeat (first | refine Run.seq ?_ | refine Run.skip ?_ | refine Run.block ?_)
    refine Run.region ?_
    refine O.move rfl rfl ?_
    first | refine O.ar rfl rfl rfl (by exact wrap_i64 (by omega) (by omega)) rfl ?_ | refine O.ar rfl rfl rfl rfl rfl ?_
    refine O.assign rfl rfl ?_
    refine O.nil ?_
    try refine Run.keep [0, 1, 2, 3, 4, 5, 6, 16, 21, 31, 32] rfl rfl ?_
    exact ih (i - 8, k', ⟨H1, B1, N1, L1⟩) _ (by refine SLe.eqv (by repeat (first | exact TmIn.nil | refine TmIn.cons rfl ?_)) (by repeat (first | exact BxIn.nil | refine BxIn.cons rfl ?_)) rfl) ⟨by dsimp only; omega, by dsimp only; omega, g1, g2, g3, g4, by simp at g5 ⊢; omega, by simp at g5 ⊢; omega, hf⟩ (by dsimp only; omega)
  obtain rfl : k = 0 := by omega
  have hf : (List.range 32).map (fun (j : Nat) => outF H j) = fin := hf
  repeat (first | refine Run.seq ?_ | refine Run.skip ?_ | refine Run.block ?_)
  refine Run.region ?_
  refine O.move rfl rfl ?_
  first | refine O.cmp rfl rfl rfl (by first | exact decide_eq_true (by omega) | exact decide_eq_false (by omega)) rfl ?_ | refine O.cmp rfl rfl rfl rfl rfl ?_
  refine O.nil ?_
  try refine Run.keep [0, 1, 2, 3, 4, 5, 6, 16, 21, 31, 32] rfl rfl ?_
  repeat (first | refine Run.seq ?_ | refine Run.skip ?_)
  first | refine Run.condT rfl rfl ?_ | refine Run.condF rfl rfl ?_ | refine Run.condT rfl (by assumption) ?_ | refine Run.condF rfl (by assumption) ?_
  refine Run.exit ?_
  repeat (first | refine thenR_exit ?_ | refine roundR_exit ?_ | refine blockR_exit ?_ | refine blockR_pass rfl ?_)
  repeat (first | refine Run.seq ?_ | refine Run.skip ?_ | refine Run.block ?_)
  refine Run.region ?_
  first | refine O.allocS hE 5 T55 ints_zero rfl rfl ?_ | refine O.alloc hE 5 T55 rfl rfl rfl ?_
  refine O.nil ?_
  try refine Run.keep [0, 1, 2, 3, 4, 5, 6, 16, 21, 31, 32] rfl rfl ?_
  repeat (first | refine Run.seq ?_ | refine Run.skip ?_ | refine Run.block ?_)
  refine Run.region ?_
  refine O.move rfl rfl ?_
  refine O.nil ?_
  try refine Run.keep [0, 1, 2, 3, 4, 5, 6, 16, 21, 31, 32] rfl rfl ?_
  repeat (first | refine Run.seq ?_ | refine Run.skip ?_)
  refine Run.block ?_
  refine Run.loopInv (ι := Nat × List Int) (fun p => p.1 ≤ 32 ∧ p.2 = (List.range 32).map (fun (j : Nat) => if j < p.1 then outF H j else 0))
    (fun p => ⟨49, [(1, .ptr 1 0), (2, .ptr 2 0), (5, .ptr 5 0), (31, .pv (.int .i64 p.1))], [(5, .var (ints .u8 p.2)), (1, .var (strm H B N L)), (2, .var (ints .u8 (List.replicate 32 0)))]⟩) (fun p => 32 - p.1) (0, List.replicate 32 0) ⟨by omega, rfl⟩ ?_ ?_
  ·
    refine SLe.eqv (by repeat (first | exact TmIn.nil | refine TmIn.cons rfl ?_)) (by repeat (first | exact BxIn.nil | refine BxIn.cons rfl ?_)) rfl
  clear ih hi hk8 hk
  rintro ⟨i, out⟩ ⟨hi, hout⟩ ih
  dsimp only at hi hout ih ⊢
  have hol : out.length = 32 := by rw [hout]; simp
  by_cases hlt : i < 32
  ·
    repeat (first | refine Run.seq ?_ | refine Run.skip ?_ | refine Run.block ?_)
    refine Run.region ?_
    first | refine O.cmp rfl rfl rfl (by first | exact decide_eq_true (by omega) | exact decide_eq_false (by omega)) rfl ?_ | refine O.cmp rfl rfl rfl rfl rfl ?_
    refine O.nil ?_
    try refine Run.keep [0, 1, 2, 3, 4, 5, 6, 16, 21, 31, 32] rfl rfl ?_
    repeat (first | refine Run.seq ?_ | refine Run.skip ?_)
    first | refine Run.condT rfl rfl ?_ | refine Run.condF rfl rfl ?_ | refine Run.condT rfl (by assumption) ?_ | refine Run.condF rfl (by assumption) ?_
    repeat (first | refine Run.seq ?_ | refine Run.skip ?_ | refine Run.block ?_)
    refine Run.region ?_
    refine O.move rfl rfl ?_
    refine O.assign rfl rfl ?_
    refine O.nil ?_
    try refine Run.keep [0, 1, 2, 3, 4, 5, 6, 16, 21, 31, 32] rfl rfl ?_
    repeat (first | refine Run.seq ?_ | refine Run.skip ?_ | refine Run.block ?_)
    refine Run.region ?_
    refine O.move rfl rfl ?_
    refine O.move rfl rfl ?_
    first | refine O.quoE rfl rfl (by omega) (by omega) (by exact wrap_i64 (by omega) (by omega)) rfl ?_ | refine O.quo rfl rfl (by omega) rfl ?_
    refine O.field hE L70 rfl rfl rfl rfl ?_
    first | refine O.ixS hE T68 rfl T67 rfl rfl rfl (by omega) (by omega) rfl ?_ | refine O.ixE hE T68 rfl T67 rfl (glo_ev (by assumption)) rfl (by omega) (by omega) rfl ?_
    first | refine O.loadS hE T67 rfl rfl rfl (by first | exact st73 (by assumption) (by first | assumption | simp [*]) | exact st72 (by assumption) (by first | assumption | simp [*]) | exact stH (by assumption) (by omega)) rfl ?_ | refine O.loadE hE T67 rfl rfl (by rfl) rfl ?_ | refine O.load hE T67 rfl rfl rfl rfl ?_
    refine O.move rfl rfl ?_
    first | refine O.remE rfl rfl (by omega) (by omega) rfl ?_ | refine O.rem rfl rfl (by omega) rfl ?_
    first | refine O.ar rfl rfl rfl (by exact wrap_i64 (by omega) (by omega)) rfl ?_ | refine O.ar rfl rfl rfl rfl rfl ?_
    first | refine O.ar rfl rfl rfl (by exact wrap_i64 (by omega) (by omega)) rfl ?_ | refine O.ar rfl rfl rfl rfl rfl ?_
    refine O.shr rfl rfl (by first | omega | (exact wrap_nn rfl _)) rfl ?_
    refine O.conv hE T67 T5 rfl rfl rfl ?_
    first | refine O.ixS hE T55 rfl T5 rfl rfl rfl (by omega) (by omega) rfl ?_ | refine O.ixE hE T55 rfl T5 rfl (glo_ev (by assumption)) rfl (by omega) (by omega) rfl ?_
    first | refine O.storeS hE T5 rfl rfl (by first | rfl | exact cells_ones (by simp [ones_app, ones_ints, ones, AV.one, PV.one])) rfl (by first | rfl | simp [ints_len, *]) (by simp [ints_len, *] <;> omega) (by first | exact setS (by assumption) (by assumption) (by assumption) (by assumption) | exact setAt_ints (by first | omega | (simp only [List.length_set]; omega)) | exact setAt_all _ _ (by simp [ints_len, *])) ?_ | refine O.store hE T5 rfl rfl rfl rfl rfl rfl ?_
    refine O.nil ?_
    try refine Run.keep [0, 1, 2, 3, 4, 5, 6, 16, 21, 31, 32] rfl rfl ?_
    repeat (first | refine Run.seq ?_ | refine Run.skip ?_ | refine Run.block ?_)
    refine Run.region ?_
    first | refine O.ar rfl rfl rfl (by exact wrap_i64 (by omega) (by omega)) rfl ?_ | refine O.ar rfl rfl rfl rfl rfl ?_
    refine O.move rfl rfl ?_
    refine O.nil ?_
    try refine Run.keep [0, 1, 2, 3, 4, 5, 6, 16, 21, 31, 32] rfl rfl ?_
    have hset : out.set (0 + (i : Int).toNat) (outF H i) = (List.range 32).map (fun (j : Nat) => if j < i + 1 then outF H j else 0) := by
      rw [hout]
      refine List.ext_getElem (by simp) fun j h1 h2 => ?_
      simp only [List.getElem_set, List.getElem_map, List.getElem_range]
      have : (0 + (i : Int).toNat = j) ↔ i = j := by omega
      simp only [this]
      by_cases e : i = j
      · subst e
        rw [if_pos rfl, if_pos (by omega)]
      · rw [if_neg e]
        by_cases e2 : j < i
        · rw [if_pos e2, if_pos (by omega)]
        · rw [if_neg e2, if_neg (by omega)]
    exact ih (i + 1, out.set (0 + (i : Int).toNat) (outF H i)) _ (by refine SLe.eqv (by repeat (first | exact TmIn.nil | refine TmIn.cons rfl ?_)) (by repeat (first | exact BxIn.nil | refine BxIn.cons rfl ?_)) rfl) ⟨by dsimp only; omega, hset⟩ (by dsimp only; omega)
  obtain rfl : i = 32 := by omega
  repeat (first | refine Run.seq ?_ | refine Run.skip ?_ | refine Run.block ?_)
  refine Run.region ?_
  first | refine O.cmp rfl rfl rfl (by first | exact decide_eq_true (by omega) | exact decide_eq_false (by omega)) rfl ?_ | refine O.cmp rfl rfl rfl rfl rfl ?_
  refine O.nil ?_
  try refine Run.keep [0, 1, 2, 3, 4, 5, 6, 16, 21, 31, 32] rfl rfl ?_
  repeat (first | refine Run.seq ?_ | refine Run.skip ?_)
  first | refine Run.condT rfl rfl ?_ | refine Run.condF rfl rfl ?_ | refine Run.condT rfl (by assumption) ?_ | refine Run.condF rfl (by assumption) ?_
  refine Run.exit ?_
  repeat (first | refine thenR_exit ?_ | refine roundR_exit ?_ | refine blockR_exit ?_ | refine blockR_pass rfl ?_)
  repeat (first | refine Run.seq ?_ | refine Run.skip ?_ | refine Run.block ?_)
  refine Run.region ?_
  first | refine O.loadA hE T55 rfl rfl rfl (by first | exact ints_take (by simp [*]) | exact tk0 (by assumption) | exact tk8 (by assumption) (by first | assumption | simp [*]) | exact tkS (by assumption) (by assumption)) (by simp [ints_len, *]) rfl ?_ | refine O.load hE T55 rfl rfl rfl rfl ?_
  first | refine O.storeS hE T55 rfl rfl (by first | rfl | exact cells_ones (by simp [ones_app, ones_ints, ones, AV.one, PV.one])) rfl (by first | rfl | simp [ints_len, *]) (by simp [ints_len, *] <;> omega) (by first | exact setS (by assumption) (by assumption) (by assumption) (by assumption) | exact setAt_ints (by first | omega | (simp only [List.length_set]; omega)) | exact setAt_all _ _ (by simp [ints_len, *])) ?_ | refine O.store hE T55 rfl rfl rfl rfl rfl rfl ?_
  refine O.nil ?_
  try refine Run.keep [0, 1, 2, 3, 4, 5, 6, 16, 21, 31, 32] rfl rfl ?_
  refine Run.ret ?_
  have e : out = fin := by
    rw [hout, ← hf]
    exact List.map_congr_left fun j hj => by rw [if_pos (List.mem_range.1 hj)]
  subst e
  exact Ends.ex hE (.inr rfl) (ys := [.agg (ints .u8 out)]) (.cell rfl rfl T55 rfl (by simp [ints_len, hol]) .nil) rfl (mens2_ints _)
theorem fnSum {T : List Int → List Int → List Int} (hT : Feeds g T) {b : List Int} (hb : b.length < 4611686018427387904) : FnC (En Tryd.prog g) 33 [.pv (bys b)] (.agg (ints .u8 (sumP T b))) [] := by
  have hE := EnOk g
  have c1 := fnBegin (g := g)
  have c2 := hT.2 begin0 b begin_ok (by decide) (by show (0 : Int) + b.length < _; omega)
  obtain ⟨g1, g2⟩ := feedP_ok hT.1 begin_ok b
  have g3 : (feedP T begin0 b).L = b.length := by rw [g2]; show (0 : Int) + b.length = _; omega
  have c3 := fnEnd hT g1 (by omega) (by omega)
  have hl : (endP T (feedP T begin0 b)).length = 32 := by simp [endP]
  refine FnC.of Tryd.func33 rfl rfl rfl rfl ?_
  repeat (first | refine Run.seq ?_ | refine Run.skip ?_ | refine Run.block ?_)
  refine Run.region ?_
  first | refine O.allocS hE 2 T55 ints_zero rfl rfl ?_ | refine O.alloc hE 2 T55 rfl rfl rfl ?_
  refine O.nil ?_
  try refine Run.keep [0, 2] rfl rfl ?_
  repeat (first | refine Run.seq ?_ | refine Run.skip ?_ | refine Run.block ?_)
  refine Run.region ?_
  refine O.callE c1 rfl (by first | rfl | simp [closed, men3, mens2_app, mens2_ints, mens2, men2, men1, mens1_app, mens1_ints, mens1]) (by first | rfl | simp [d2, ds1_ints, ds1_app, ds1, d1, ds0_app, ds0_ints, ds0, d0]) rfl ?_
  refine O.move rfl rfl ?_
  refine O.callE c2 rfl (by first | rfl | simp [closed, men3, mens2_app, mens2_ints, mens2, men2, men1, mens1_app, mens1_ints, mens1]) (by first | rfl | simp [d2, ds1_ints, ds1_app, ds1, d1, ds0_app, ds0_ints, ds0, d0]) rfl ?_
  refine O.callE c3 rfl (by first | rfl | simp [closed, men3, mens2_app, mens2_ints, mens2, men2, men1, mens1_app, mens1_ints, mens1]) (by first | rfl | simp [d2, ds1_ints, ds1_app, ds1, d1, ds0_app, ds0_ints, ds0, d0]) rfl ?_
  first | refine O.storeS hE T55 rfl rfl (by first | rfl | exact cells_ones (by simp [ones_app, ones_ints, ones, AV.one, PV.one])) rfl (by first | rfl | simp [ints_len, *]) (by simp [ints_len, *] <;> omega) (by first | exact setS (by assumption) (by assumption) (by assumption) (by assumption) | exact setAt_ints (by first | omega | (simp only [List.length_set]; omega)) | exact setAt_all _ _ (by simp [ints_len, *])) ?_ | refine O.store hE T55 rfl rfl rfl rfl rfl rfl ?_
  refine O.nil ?_
  try refine Run.keep [0, 2] rfl rfl ?_
  refine Run.ret ?_
  exact Ends.ex hE (.inr rfl) (ys := [.agg (ints .u8 (sumP T b))]) (.cell rfl rfl T55 rfl (by simp [ints_len, sumP, hl]) .nil) rfl (mens2_ints _)
theorem sumP_len {T : List Int → List Int → List Int} (b : List Int) : (sumP T b).length = 32 := by simp [sumP, endP]
end Go.Proofs.YthpenjbpaegpgaaDoor.Vm
