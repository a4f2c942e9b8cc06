/- SHA-256: one turn, told exactly. Conditions: the table of steps has 64 words. -/
import Derived.Test.YtcbdhdblchmofaaDoorVmEnv
import Derived.Test.YtcbdhdblchmofaaDoorShaM
namespace Go.Proofs.YtcbdhdblchmofaaDoor.Vm
open Go Go.RowKit
set_option linter.unusedVariables false
set_option linter.unusedSimpArgs false
attribute [local irreducible] Ops Dr Run
variable {g : Nat → Option (List PV)}
def rotP (x j : Int) : Int := IntKind.u32.wrap ↑(BitVec.ofInt IntKind.u32.bits (IntKind.u32.wrap (x * 2 ^ min (IntKind.u64.wrap ↑(BitVec.ofInt IntKind.u64.bits (IntKind.u64.wrap j) &&& BitVec.ofInt IntKind.u64.bits 31).toNat).toNat IntKind.u32.bits)) |||
  BitVec.ofInt IntKind.u32.bits (x.fdiv (2 ^ min (IntKind.u64.wrap (32 - IntKind.u64.wrap ↑(BitVec.ofInt IntKind.u64.bits (IntKind.u64.wrap j) &&& BitVec.ofInt IntKind.u64.bits 31).toNat)).toNat IntKind.u32.bits))).toNat
theorem fnRot (x j : Int) : FnC (En Tryd.prog g) 77 [.pv (.int .u32 x), .pv (.int .i64 j)] (.pv (.int .u32 (rotP x j))) [] := by
  have hE := EnOk g
  refine FnC.of Tryd.func77 rfl rfl rfl rfl ?_
  repeat (first | refine Run.seq ?_ | refine Run.skip ?_ | refine Run.block ?_)
  refine Run.region ?_
  refine O.assign rfl rfl ?_
  refine O.nil ?_
  try refine Run.keep [0, 1, 4, 5] rfl rfl ?_
  repeat (first | refine Run.seq ?_ | refine Run.skip ?_ | refine Run.block ?_)
  refine Run.region ?_
  refine O.move rfl rfl ?_
  refine O.conv hE T3 T83 rfl rfl rfl ?_
  refine O.bit rfl rfl rfl rfl ?_
  refine O.assign rfl rfl ?_
  refine O.nil ?_
  try refine Run.keep [0, 1, 4, 5] rfl rfl ?_
  repeat (first | refine Run.seq ?_ | refine Run.skip ?_ | refine Run.block ?_)
  refine Run.region ?_
  refine O.move rfl rfl ?_
  refine O.move rfl rfl ?_
  refine O.shl rfl rfl (by first | omega | (exact wrap_nn rfl _)) rfl ?_
  refine O.move rfl rfl ?_
  refine O.move rfl rfl ?_
  refine O.ar rfl rfl rfl rfl rfl ?_
  refine O.shr rfl rfl (by first | omega | (exact wrap_nn rfl _)) rfl ?_
  refine O.bit rfl rfl rfl rfl ?_
  refine O.assign rfl rfl ?_
  refine O.nil ?_
  try refine Run.keep [0, 1, 4, 5] rfl rfl ?_
  (repeat (first | refine Run.seq ?_ | refine Run.skip ?_)); (try refine Run.ret ?_); first | exact Ends.flat hE (.inr rfl) rfl rfl (AVle.of_eq rfl) rfl | exact Ends.flat hE (.inl rfl) rfl rfl (AVle.of_eq rfl) rfl
def w32 (x : Int) : Int := IntKind.u32.wrap x
def x32 (a b : Int) : Int := IntKind.u32.wrap ↑(BitVec.ofInt IntKind.u32.bits a ^^^ BitVec.ofInt IntKind.u32.bits b).toNat
def o32 (a b : Int) : Int := IntKind.u32.wrap ↑(BitVec.ofInt IntKind.u32.bits a ||| BitVec.ofInt IntKind.u32.bits b).toNat
def a32 (a b : Int) : Int := IntKind.u32.wrap ↑(BitVec.ofInt IntKind.u32.bits a &&& BitVec.ofInt IntKind.u32.bits b).toNat
def l32 (x n : Int) : Int := w32 (x * 2 ^ min n.toNat IntKind.u32.bits)
def r32 (x n : Int) : Int := x.fdiv (2 ^ min n.toNat IntKind.u32.bits)
def step1 (B w : List Int) (i : Int) : List Int := w.set (0 + i.toNat) (o32 (o32 (o32 (l32 (w32 (B.getD (0 + (4 * i).toNat) 0)) 24) (l32 (w32 (B.getD (0 + (4 * i + 1).toNat) 0)) 16)) (l32 (w32 (B.getD (0 + (4 * i + 2).toNat) 0)) 8)) (w32 (B.getD (0 + (4 * i + 3).toNat) 0)))
def step2 (w : List Int) (i : Int) : List Int := w.set (0 + i.toNat) (w32 (w32 (w32 (w.getD (0 + (i - 16).toNat) 0 + x32 (x32 (rotP (w.getD (0 + (i - 15).toNat) 0) (-7)) (rotP (w.getD (0 + (i - 15).toNat) 0) (-18))) (r32 (w.getD (0 + (i - 15).toNat) 0) 3)) + w.getD (0 + (i - 7).toNat) 0) +
  x32 (x32 (rotP (w.getD (0 + (i - 2).toNat) 0) (-17)) (rotP (w.getD (0 + (i - 2).toNat) 0) (-19))) (r32 (w.getD (0 + (i - 2).toNat) 0) 10)))
def vg (v : List Int) (j : Int) : Int := v.getD (0 + j.toNat) 0
def t3 (ks w v : List Int) (i : Int) : Int := w32 (w32 (w32 (w32 (vg v 7 + x32 (x32 (rotP (vg v 4) (-6)) (rotP (vg v 4) (-11))) (rotP (vg v 4) (-25))) + x32 (a32 (vg v 4) (vg v 5)) (a32 (notI .u32 (vg v 4)) (vg v 6))) + ks.getD i.toNat 0) + w.getD (0 + i.toNat) 0)
def u3 (v : List Int) : Int := w32 (x32 (x32 (rotP (vg v 0) (-2)) (rotP (vg v 0) (-13))) (rotP (vg v 0) (-22)) + x32 (x32 (a32 (vg v 0) (vg v 1)) (a32 (vg v 0) (vg v 2))) (a32 (vg v 1) (vg v 2)))
def step3 (ks w v : List Int) (i : Int) : List Int := [w32 (t3 ks w v i + u3 v), vg v 0, vg v 1, vg v 2, w32 (vg v 3 + t3 ks w v i), vg v 4, vg v 5, vg v 6]
def step4 (H v : List Int) (i : Int) : List Int := v.set (0 + i.toNat) (w32 (v.getD (0 + i.toNat) 0 + H.getD (0 + i.toNat) 0))
def foldR (f : List Int → Int → List Int) (m : Int) (k : Nat) (w : List Int) : List Int := (List.range k).foldl (fun w (j : Nat) => f w (m + j)) w
theorem foldR_succ (f : List Int → Int → List Int) (m : Int) (k : Nat) (w : List Int) : foldR f m (k + 1) w = f (foldR f m k w) (m + k) := by
  unfold foldR
  rw [List.range_succ, List.foldl_append]
  rfl
theorem foldR_zero (f : List Int → Int → List Int) (m : Int) (w : List Int) : foldR f m 0 w = w := rfl
def words (B : List Int) : List Int := foldR step2 16 48 (foldR (step1 B) 0 16 (List.replicate 64 0))
def turnP (ks H B : List Int) : List Int := foldR (step4 H) 0 8 (foldR (step3 ks (words B)) 0 64 H)
attribute [local irreducible] rotP foldR
theorem turn_exact {ks : List Int} (hg : g 0 = some (ks.map (PV.int .u32))) (hk : ks.length = 64) (H B : List Int) (hH : H.length = 8) (hB : B.length = 64) :
    (turnP ks H B).length = 8 ∧ FnC (En Tryd.prog g) 71 [.agg (ints .u32 H), .agg (ints .u8 B)] (.agg (ints .u32 (turnP ks H B))) [] := by
  have hE := EnOk g
  have hR := fnRot (g := g)
  obtain ⟨fin, hfin⟩ : ∃ f, turnP ks H B = f := ⟨_, rfl⟩
  rw [hfin]
  suffices h : ∃ v, (fin.length = 8 ∧ v = .agg (ints .u32 fin)) ∧ FnC (En Tryd.prog g) 71 [.agg (ints .u32 H), .agg (ints .u8 B)] v [] by
    obtain ⟨_, ⟨h1, rfl⟩, h2⟩ := h
    exact ⟨h1, h2⟩
  refine FnC.ofEx Tryd.func71 rfl rfl rfl rfl ?_
  repeat (first | refine Run.seq ?_ | refine Run.skip ?_ | refine Run.block ?_)
  refine Run.region ?_
  refine O.box 2 rfl (by first | rfl | exact cells_ones (by simp [ones_app, ones_ints, ones, AV.one, PV.one])) rfl rfl ?_
  refine O.box 3 rfl (by first | rfl | exact cells_ones (by simp [ones_app, ones_ints, ones, AV.one, PV.one])) rfl rfl ?_
  first | refine O.allocS hE 4 T36 ints_zero rfl rfl ?_ | refine O.alloc hE 4 T36 rfl rfl rfl ?_
  refine O.nil ?_
  try refine Run.keep [0, 1, 2, 3, 4, 5, 6, 7, 8, 9, 10, 11, 12, 13, 14, 15, 16, 17, 18, 19, 20, 21, 56, 99, 100, 181, 182] rfl rfl ?_
  repeat (first | refine Run.seq ?_ | refine Run.skip ?_ | refine Run.block ?_)
  refine Run.region ?_
  first | refine O.allocS hE 5 T111 ints_zero rfl rfl ?_ | refine O.alloc hE 5 T111 rfl rfl rfl ?_
  refine O.nil ?_
  try refine Run.keep [0, 1, 2, 3, 4, 5, 6, 7, 8, 9, 10, 11, 12, 13, 14, 15, 16, 17, 18, 19, 20, 21, 56, 99, 100, 181, 182] rfl rfl ?_
  repeat (first | refine Run.seq ?_ | refine Run.skip ?_ | refine Run.block ?_)
  refine Run.region ?_
  refine O.move rfl rfl ?_
  refine O.nil ?_
  try refine Run.keep [0, 1, 2, 3, 4, 5, 6, 7, 8, 9, 10, 11, 12, 13, 14, 15, 16, 17, 18, 19, 20, 21, 56, 99, 100, 181, 182] rfl rfl ?_
  refine Run.block ?_
  refine Run.loopInv (ι := Int × Nat × List Int) (fun p => p.1 = 0 + (p.2.1 : Int) ∧ p.2.1 ≤ 16 ∧ p.2.2.length = 64 ∧ foldR (step1 B) 0 p.2.1 (List.replicate 64 0) = p.2.2) (fun p => ⟨194, [(2, .ptr 2 0), (3, .ptr 3 0), (4, .ptr 4 0), (5, .ptr 5 0), (20, .pv (.int .i64 p.1))], [(5, .var (ints .u32 p.2.2)), (4, .var (ints .u32 [0, 0, 0, 0, 0, 0, 0, 0])), (3, .var (ints .u8 B)), (2, .var (ints .u32 H))]⟩) (fun p => 16 - p.2.1) (0, 0, List.replicate 64 0) ⟨rfl, Nat.zero_le _, by simp, foldR_zero _ _ _⟩ ?_ ?_
  ·
    refine SLe.eqv (by repeat (first | exact TmIn.nil | refine TmIn.cons rfl ?_)) (by repeat (first | exact BxIn.nil | refine BxIn.cons rfl ?_)) rfl
  ·
    rintro ⟨i, k, w⟩ ⟨h0, h1, hw, hwf⟩ ih
    dsimp only at h0 h1 hw hwf ih ⊢
    by_cases hi : i < 16
    ·
      repeat (first | refine Run.seq ?_ | refine Run.skip ?_ | refine Run.block ?_)
      refine Run.region ?_
      first | refine O.cmp rfl rfl rfl (by first | exact decide_eq_true (by omega) | exact decide_eq_false (by omega)) rfl ?_ | refine O.cmp rfl rfl rfl rfl rfl ?_
      refine O.nil ?_
      try refine Run.keep [0, 1, 2, 3, 4, 5, 6, 7, 8, 9, 10, 11, 12, 13, 14, 15, 16, 17, 18, 19, 20, 21, 56, 99, 100, 181, 182] rfl rfl ?_
      repeat (first | refine Run.seq ?_ | refine Run.skip ?_)
      first | refine Run.condT rfl rfl ?_ | refine Run.condF rfl rfl ?_ | refine Run.condT rfl (by assumption) ?_ | refine Run.condF rfl (by assumption) ?_
      repeat (first | refine Run.seq ?_ | refine Run.skip ?_ | refine Run.block ?_)
      refine Run.region ?_
      refine O.move rfl rfl ?_
      refine O.assign rfl rfl ?_
      refine O.nil ?_
      try refine Run.keep [0, 1, 2, 3, 4, 5, 6, 7, 8, 9, 10, 11, 12, 13, 14, 15, 16, 17, 18, 19, 20, 21, 56, 99, 100, 181, 182] rfl rfl ?_
      repeat (first | refine Run.seq ?_ | refine Run.skip ?_ | refine Run.block ?_)
      refine Run.draw mixed rfl ?_
      refine D.move rfl rfl ?_
      refine D.move rfl rfl ?_
      first | refine D.ar rfl rfl rfl (by exact wrap_i64 (by omega) (by omega)) rfl ?_ | refine D.ar rfl rfl rfl rfl rfl ?_
      first | refine D.ixS hE T37 rfl T5 rfl rfl rfl (by omega) (by omega) rfl ?_ | refine D.ixE hE T37 rfl T5 rfl (glo_ev (by assumption)) rfl (by omega) (by omega) rfl ?_
      first | refine D.loadS hE T5 rfl rfl rfl (ints_at (by first | omega | (simp only [List.length_set]; omega))) rfl ?_ | refine D.loadE hE T5 rfl rfl (drop_at (by omega)) rfl ?_ | refine D.load hE T5 rfl rfl rfl rfl ?_
      refine D.conv hE T5 T29 rfl rfl rfl ?_
      refine D.shl rfl rfl (by first | omega | (exact wrap_nn rfl _)) rfl ?_
      refine D.move rfl rfl ?_
      first | refine D.ar rfl rfl rfl (by exact wrap_i64 (by omega) (by omega)) rfl ?_ | refine D.ar rfl rfl rfl rfl rfl ?_
      first | refine D.ar rfl rfl rfl (by exact wrap_i64 (by omega) (by omega)) rfl ?_ | refine D.ar rfl rfl rfl rfl rfl ?_
      first | refine D.ixS hE T37 rfl T5 rfl rfl rfl (by omega) (by omega) rfl ?_ | refine D.ixE hE T37 rfl T5 rfl (glo_ev (by assumption)) rfl (by omega) (by omega) rfl ?_
      first | refine D.loadS hE T5 rfl rfl rfl (ints_at (by first | omega | (simp only [List.length_set]; omega))) rfl ?_ | refine D.loadE hE T5 rfl rfl (drop_at (by omega)) rfl ?_ | refine D.load hE T5 rfl rfl rfl rfl ?_
      refine D.conv hE T5 T29 rfl rfl rfl ?_
      refine D.shl rfl rfl (by first | omega | (exact wrap_nn rfl _)) rfl ?_
      refine D.bit rfl rfl rfl rfl ?_
      refine D.move rfl rfl ?_
      first | refine D.ar rfl rfl rfl (by exact wrap_i64 (by omega) (by omega)) rfl ?_ | refine D.ar rfl rfl rfl rfl rfl ?_
      first | refine D.ar rfl rfl rfl (by exact wrap_i64 (by omega) (by omega)) rfl ?_ | refine D.ar rfl rfl rfl rfl rfl ?_
      first | refine D.ixS hE T37 rfl T5 rfl rfl rfl (by omega) (by omega) rfl ?_ | refine D.ixE hE T37 rfl T5 rfl (glo_ev (by assumption)) rfl (by omega) (by omega) rfl ?_
      first | refine D.loadS hE T5 rfl rfl rfl (ints_at (by first | omega | (simp only [List.length_set]; omega))) rfl ?_ | refine D.loadE hE T5 rfl rfl (drop_at (by omega)) rfl ?_ | refine D.load hE T5 rfl rfl rfl rfl ?_
      refine D.conv hE T5 T29 rfl rfl rfl ?_
      refine D.shl rfl rfl (by first | omega | (exact wrap_nn rfl _)) rfl ?_
      refine D.bit rfl rfl rfl rfl ?_
      refine D.move rfl rfl ?_
      first | refine D.ar rfl rfl rfl (by exact wrap_i64 (by omega) (by omega)) rfl ?_ | refine D.ar rfl rfl rfl rfl rfl ?_
      first | refine D.ar rfl rfl rfl (by exact wrap_i64 (by omega) (by omega)) rfl ?_ | refine D.ar rfl rfl rfl rfl rfl ?_
      first | refine D.ixS hE T37 rfl T5 rfl rfl rfl (by omega) (by omega) rfl ?_ | refine D.ixE hE T37 rfl T5 rfl (glo_ev (by assumption)) rfl (by omega) (by omega) rfl ?_
      first | refine D.loadS hE T5 rfl rfl rfl (ints_at (by first | omega | (simp only [List.length_set]; omega))) rfl ?_ | refine D.loadE hE T5 rfl rfl (drop_at (by omega)) rfl ?_ | refine D.load hE T5 rfl rfl rfl rfl ?_
      refine D.conv hE T5 T29 rfl rfl rfl ?_
      refine D.bit rfl rfl rfl rfl ?_
      first | refine D.ixS hE T111 rfl T29 rfl rfl rfl (by omega) (by omega) rfl ?_ | refine D.ixE hE T111 rfl T29 rfl (glo_ev (by assumption)) rfl (by omega) (by omega) rfl ?_
      first | refine D.storeS hE T29 rfl rfl (by first | rfl | exact cells_ones (by simp [ones_app, ones_ints, ones, AV.one, PV.one])) rfl (by first | rfl | simp [ints_len, *]) (by simp [ints_len, *] <;> omega) (by first | exact setAt_ints (by first | omega | (simp only [List.length_set]; omega)) | exact set8 (by simp [ints_len, *]) | exact setAt_all _ _ (by simp [ints_len, *])) ?_ | refine D.store hE T29 rfl rfl rfl rfl rfl rfl ?_
      refine Dr.nil ?_
      refine ⟨rfl, ?_⟩
      try refine Run.keep [0, 1, 2, 3, 4, 5, 6, 7, 8, 9, 10, 11, 12, 13, 14, 15, 16, 17, 18, 19, 20, 21, 56, 99, 100, 181, 182] rfl rfl ?_
      repeat (first | refine Run.seq ?_ | refine Run.skip ?_ | refine Run.block ?_)
      refine Run.region ?_
      first | refine O.ar rfl rfl rfl (by exact wrap_i64 (by omega) (by omega)) rfl ?_ | refine O.ar rfl rfl rfl rfl rfl ?_
      refine O.move rfl rfl ?_
      refine O.nil ?_
      try refine Run.keep [0, 1, 2, 3, 4, 5, 6, 7, 8, 9, 10, 11, 12, 13, 14, 15, 16, 17, 18, 19, 20, 21, 56, 99, 100, 181, 182] rfl rfl ?_
      exact ih (i + 1, k + 1, step1 B w i) _ (by refine SLe.eqv (by repeat (first | exact TmIn.nil | refine TmIn.cons rfl ?_)) (by repeat (first | exact BxIn.nil | refine BxIn.cons rfl ?_)) rfl) ⟨by dsimp only; omega, by dsimp only; omega, by first | rfl | (simp only [step1, step2, step4, List.length_set]; assumption), by dsimp only; rw [foldR_succ, hwf, h0]⟩ (by dsimp only; omega)
    ·
      repeat (first | refine Run.seq ?_ | refine Run.skip ?_ | refine Run.block ?_)
      refine Run.region ?_
      first | refine O.cmp rfl rfl rfl (by first | exact decide_eq_true (by omega) | exact decide_eq_false (by omega)) rfl ?_ | refine O.cmp rfl rfl rfl rfl rfl ?_
      refine O.nil ?_
      try refine Run.keep [0, 1, 2, 3, 4, 5, 6, 7, 8, 9, 10, 11, 12, 13, 14, 15, 16, 17, 18, 19, 20, 21, 56, 99, 100, 181, 182] rfl rfl ?_
      repeat (first | refine Run.seq ?_ | refine Run.skip ?_)
      first | refine Run.condT rfl rfl ?_ | refine Run.condF rfl rfl ?_ | refine Run.condT rfl (by assumption) ?_ | refine Run.condF rfl (by assumption) ?_
      obtain rfl : k = 16 := by omega
      refine Run.exit ?_
      repeat (first | refine thenR_exit ?_ | refine roundR_exit ?_ | refine blockR_exit ?_ | refine blockR_pass rfl ?_)
      repeat (first | refine Run.seq ?_ | refine Run.skip ?_ | refine Run.block ?_)
      refine Run.region ?_
      refine O.assign rfl rfl ?_
      refine O.nil ?_
      try refine Run.keep [0, 1, 2, 3, 4, 5, 6, 7, 8, 9, 10, 11, 12, 13, 14, 15, 16, 17, 18, 19, 20, 21, 56, 99, 100, 181, 182] rfl rfl ?_
      refine Run.block ?_
      refine Run.loopInv (ι := Int × Nat × List Int) (fun p => p.1 = 16 + (p.2.1 : Int) ∧ p.2.1 ≤ 48 ∧ p.2.2.length = 64 ∧ foldR step2 16 p.2.1 (foldR (step1 B) 0 16 (List.replicate 64 0)) = p.2.2) (fun p => ⟨194, [(2, .ptr 2 0), (3, .ptr 3 0), (4, .ptr 4 0), (5, .ptr 5 0), (7, .pv (.int .i64 p.1))], [(5, .var (ints .u32 p.2.2)), (4, .var (ints .u32 [0, 0, 0, 0, 0, 0, 0, 0])), (3, .var (ints .u8 B)), (2, .var (ints .u32 H))]⟩) (fun p => 48 - p.2.1) (16, 0, w) ⟨rfl, Nat.zero_le _, hw, (foldR_zero _ _ _).trans hwf⟩ ?_ ?_
      ·
        refine SLe.eqv (by repeat (first | exact TmIn.nil | refine TmIn.cons rfl ?_)) (by repeat (first | exact BxIn.nil | refine BxIn.cons rfl ?_)) rfl
      clear ih h0 h1 hi hw hwf w i
      rintro ⟨i, k, w⟩ ⟨h0, h1, hw, hwf⟩ ih
      dsimp only at h0 h1 hw hwf ih ⊢
      by_cases hi : i < 64
      ·
        repeat (first | refine Run.seq ?_ | refine Run.skip ?_ | refine Run.block ?_)
        refine Run.region ?_
        refine O.move rfl rfl ?_
        first | refine O.cmp rfl rfl rfl (by first | exact decide_eq_true (by omega) | exact decide_eq_false (by omega)) rfl ?_ | refine O.cmp rfl rfl rfl rfl rfl ?_
        refine O.nil ?_
        try refine Run.keep [0, 1, 2, 3, 4, 5, 6, 7, 8, 9, 10, 11, 12, 13, 14, 15, 16, 17, 18, 19, 20, 21, 56, 99, 100, 181, 182] rfl rfl ?_
        repeat (first | refine Run.seq ?_ | refine Run.skip ?_)
        first | refine Run.condT rfl rfl ?_ | refine Run.condF rfl rfl ?_ | refine Run.condT rfl (by assumption) ?_ | refine Run.condF rfl (by assumption) ?_
        repeat (first | refine Run.seq ?_ | refine Run.skip ?_ | refine Run.block ?_)
        refine Run.draw mixed rfl ?_
        refine D.move rfl rfl ?_
        first | refine D.ar rfl rfl rfl (by exact wrap_i64 (by omega) (by omega)) rfl ?_ | refine D.ar rfl rfl rfl rfl rfl ?_
        first | refine D.ixS hE T111 rfl T29 rfl rfl rfl (by omega) (by omega) rfl ?_ | refine D.ixE hE T111 rfl T29 rfl (glo_ev (by assumption)) rfl (by omega) (by omega) rfl ?_
        first | refine D.loadS hE T29 rfl rfl rfl (ints_at (by first | omega | (simp only [List.length_set]; omega))) rfl ?_ | refine D.loadE hE T29 rfl rfl (drop_at (by omega)) rfl ?_ | refine D.load hE T29 rfl rfl rfl rfl ?_
        refine D.move rfl rfl ?_
        first | refine D.ar rfl rfl rfl (by exact wrap_i64 (by omega) (by omega)) rfl ?_ | refine D.ar rfl rfl rfl rfl rfl ?_
        first | refine D.ixS hE T111 rfl T29 rfl rfl rfl (by omega) (by omega) rfl ?_ | refine D.ixE hE T111 rfl T29 rfl (glo_ev (by assumption)) rfl (by omega) (by omega) rfl ?_
        first | refine D.loadS hE T29 rfl rfl rfl (ints_at (by first | omega | (simp only [List.length_set]; omega))) rfl ?_ | refine D.loadE hE T29 rfl rfl (drop_at (by omega)) rfl ?_ | refine D.load hE T29 rfl rfl rfl rfl ?_
        refine D.assign rfl rfl ?_
        refine D.assign rfl rfl ?_
        refine Dr.nil ?_
        refine ⟨rfl, ?_⟩
        try refine Run.keep [0, 1, 2, 3, 4, 5, 6, 7, 8, 9, 10, 11, 12, 13, 14, 15, 16, 17, 18, 19, 20, 21, 56, 99, 100, 181, 182] rfl rfl ?_
        repeat (first | refine Run.seq ?_ | refine Run.skip ?_ | refine Run.block ?_)
        refine Run.region ?_
        refine O.move rfl rfl ?_
        refine O.callE (hR _ _) rfl (by first | rfl | simp [closed, men3, mens2_app, mens2_ints, mens2, men2, men1, mens1_app, mens1_ints, mens1]) (by first | rfl | simp [d2, ds1_ints, ds1_app, ds1, d1, ds0_app, ds0_ints, ds0, d0]) rfl ?_
        refine O.move rfl rfl ?_
        refine O.callE (hR _ _) rfl (by first | rfl | simp [closed, men3, mens2_app, mens2_ints, mens2, men2, men1, mens1_app, mens1_ints, mens1]) (by first | rfl | simp [d2, ds1_ints, ds1_app, ds1, d1, ds0_app, ds0_ints, ds0, d0]) rfl ?_
        refine O.bit rfl rfl rfl rfl ?_
        refine O.move rfl rfl ?_
        refine O.shr rfl rfl (by first | omega | (exact wrap_nn rfl _)) rfl ?_
        refine O.bit rfl rfl rfl rfl ?_
        refine O.assign rfl rfl ?_
        refine O.nil ?_
        try refine Run.keep [0, 1, 2, 3, 4, 5, 6, 7, 8, 9, 10, 11, 12, 13, 14, 15, 16, 17, 18, 19, 20, 21, 56, 99, 100, 181, 182] rfl rfl ?_
        repeat (first | refine Run.seq ?_ | refine Run.skip ?_ | refine Run.block ?_)
        refine Run.region ?_
        refine O.move rfl rfl ?_
        refine O.callE (hR _ _) rfl (by first | rfl | simp [closed, men3, mens2_app, mens2_ints, mens2, men2, men1, mens1_app, mens1_ints, mens1]) (by first | rfl | simp [d2, ds1_ints, ds1_app, ds1, d1, ds0_app, ds0_ints, ds0, d0]) rfl ?_
        refine O.move rfl rfl ?_
        refine O.callE (hR _ _) rfl (by first | rfl | simp [closed, men3, mens2_app, mens2_ints, mens2, men2, men1, mens1_app, mens1_ints, mens1]) (by first | rfl | simp [d2, ds1_ints, ds1_app, ds1, d1, ds0_app, ds0_ints, ds0, d0]) rfl ?_
        refine O.bit rfl rfl rfl rfl ?_
        refine O.move rfl rfl ?_
        refine O.shr rfl rfl (by first | omega | (exact wrap_nn rfl _)) rfl ?_
        refine O.bit rfl rfl rfl rfl ?_
        refine O.assign rfl rfl ?_
        refine O.nil ?_
        try refine Run.keep [0, 1, 2, 3, 4, 5, 6, 7, 8, 9, 10, 11, 12, 13, 14, 15, 16, 17, 18, 19, 20, 21, 56, 99, 100, 181, 182] rfl rfl ?_
        repeat (first | refine Run.seq ?_ | refine Run.skip ?_ | refine Run.block ?_)
        refine Run.draw mixed rfl ?_
        refine D.move rfl rfl ?_
        refine D.move rfl rfl ?_
        first | refine D.ar rfl rfl rfl (by exact wrap_i64 (by omega) (by omega)) rfl ?_ | refine D.ar rfl rfl rfl rfl rfl ?_
        first | refine D.ixS hE T111 rfl T29 rfl rfl rfl (by omega) (by omega) rfl ?_ | refine D.ixE hE T111 rfl T29 rfl (glo_ev (by assumption)) rfl (by omega) (by omega) rfl ?_
        first | refine D.loadS hE T29 rfl rfl rfl (ints_at (by first | omega | (simp only [List.length_set]; omega))) rfl ?_ | refine D.loadE hE T29 rfl rfl (drop_at (by omega)) rfl ?_ | refine D.load hE T29 rfl rfl rfl rfl ?_
        refine D.move rfl rfl ?_
        refine D.ar rfl rfl rfl rfl rfl ?_
        refine D.move rfl rfl ?_
        first | refine D.ar rfl rfl rfl (by exact wrap_i64 (by omega) (by omega)) rfl ?_ | refine D.ar rfl rfl rfl rfl rfl ?_
        first | refine D.ixS hE T111 rfl T29 rfl rfl rfl (by omega) (by omega) rfl ?_ | refine D.ixE hE T111 rfl T29 rfl (glo_ev (by assumption)) rfl (by omega) (by omega) rfl ?_
        first | refine D.loadS hE T29 rfl rfl rfl (ints_at (by first | omega | (simp only [List.length_set]; omega))) rfl ?_ | refine D.loadE hE T29 rfl rfl (drop_at (by omega)) rfl ?_ | refine D.load hE T29 rfl rfl rfl rfl ?_
        refine D.ar rfl rfl rfl rfl rfl ?_
        refine D.move rfl rfl ?_
        refine D.ar rfl rfl rfl rfl rfl ?_
        first | refine D.ixS hE T111 rfl T29 rfl rfl rfl (by omega) (by omega) rfl ?_ | refine D.ixE hE T111 rfl T29 rfl (glo_ev (by assumption)) rfl (by omega) (by omega) rfl ?_
        first | refine D.storeS hE T29 rfl rfl (by first | rfl | exact cells_ones (by simp [ones_app, ones_ints, ones, AV.one, PV.one])) rfl (by first | rfl | simp [ints_len, *]) (by simp [ints_len, *] <;> omega) (by first | exact setAt_ints (by first | omega | (simp only [List.length_set]; omega)) | exact set8 (by simp [ints_len, *]) | exact setAt_all _ _ (by simp [ints_len, *])) ?_ | refine D.store hE T29 rfl rfl rfl rfl rfl rfl ?_
        refine Dr.nil ?_
        refine ⟨rfl, ?_⟩
        try refine Run.keep [0, 1, 2, 3, 4, 5, 6, 7, 8, 9, 10, 11, 12, 13, 14, 15, 16, 17, 18, 19, 20, 21, 56, 99, 100, 181, 182] rfl rfl ?_
        repeat (first | refine Run.seq ?_ | refine Run.skip ?_ | refine Run.block ?_)
        refine Run.region ?_
        refine O.move rfl rfl ?_
        first | refine O.ar rfl rfl rfl (by exact wrap_i64 (by omega) (by omega)) rfl ?_ | refine O.ar rfl rfl rfl rfl rfl ?_
        refine O.assign rfl rfl ?_
        refine O.nil ?_
        try refine Run.keep [0, 1, 2, 3, 4, 5, 6, 7, 8, 9, 10, 11, 12, 13, 14, 15, 16, 17, 18, 19, 20, 21, 56, 99, 100, 181, 182] rfl rfl ?_
        exact ih (i + 1, k + 1, step2 w i) _ (by refine SLe.eqv (by repeat (first | exact TmIn.nil | refine TmIn.cons rfl ?_)) (by repeat (first | exact BxIn.nil | refine BxIn.cons rfl ?_)) rfl) ⟨by dsimp only; omega, by dsimp only; omega, by first | rfl | (simp only [step1, step2, step4, List.length_set]; assumption), by dsimp only; rw [foldR_succ, hwf, h0]⟩ (by dsimp only; omega)
      ·
        repeat (first | refine Run.seq ?_ | refine Run.skip ?_ | refine Run.block ?_)
        refine Run.region ?_
        refine O.move rfl rfl ?_
        first | refine O.cmp rfl rfl rfl (by first | exact decide_eq_true (by omega) | exact decide_eq_false (by omega)) rfl ?_ | refine O.cmp rfl rfl rfl rfl rfl ?_
        refine O.nil ?_
        try refine Run.keep [0, 1, 2, 3, 4, 5, 6, 7, 8, 9, 10, 11, 12, 13, 14, 15, 16, 17, 18, 19, 20, 21, 56, 99, 100, 181, 182] rfl rfl ?_
        repeat (first | refine Run.seq ?_ | refine Run.skip ?_)
        first | refine Run.condT rfl rfl ?_ | refine Run.condF rfl rfl ?_ | refine Run.condT rfl (by assumption) ?_ | refine Run.condF rfl (by assumption) ?_
        obtain rfl : k = 48 := by omega
        refine Run.exit ?_
        repeat (first | refine thenR_exit ?_ | refine roundR_exit ?_ | refine blockR_exit ?_ | refine blockR_pass rfl ?_)
        repeat (first | refine Run.seq ?_ | refine Run.skip ?_ | refine Run.block ?_)
        refine Run.region ?_
        first | refine O.loadA hE T36 rfl rfl rfl (ints_take (by assumption)) (by simp [ints_len, *]) rfl ?_ | refine O.load hE T36 rfl rfl rfl rfl ?_
        first | refine O.allocS hE 12 T36 ints_zero rfl rfl ?_ | refine O.alloc hE 12 T36 rfl rfl rfl ?_
        first | refine O.storeS hE T36 rfl rfl (by first | rfl | exact cells_ones (by simp [ones_app, ones_ints, ones, AV.one, PV.one])) rfl (by first | rfl | simp [ints_len, *]) (by simp [ints_len, *] <;> omega) (by first | exact setAt_ints (by first | omega | (simp only [List.length_set]; omega)) | exact set8 (by simp [ints_len, *]) | exact setAt_all _ _ (by simp [ints_len, *])) ?_ | refine O.store hE T36 rfl rfl rfl rfl rfl rfl ?_
        refine O.nil ?_
        try refine Run.keep [0, 1, 2, 3, 4, 5, 6, 7, 8, 9, 10, 11, 12, 13, 14, 15, 16, 17, 18, 19, 20, 21, 56, 99, 100, 181, 182] rfl rfl ?_
        repeat (first | refine Run.seq ?_ | refine Run.skip ?_ | refine Run.block ?_)
        refine Run.region ?_
        refine O.move rfl rfl ?_
        refine O.nil ?_
        try refine Run.keep [0, 1, 2, 3, 4, 5, 6, 7, 8, 9, 10, 11, 12, 13, 14, 15, 16, 17, 18, 19, 20, 21, 56, 99, 100, 181, 182] rfl rfl ?_
        refine Run.block ?_
        refine Run.loopInv (ι := Int × Nat × List Int) (fun p => p.1 = 0 + (p.2.1 : Int) ∧ p.2.1 ≤ 64 ∧ p.2.2.length = 8 ∧ foldR (step3 ks w) 0 p.2.1 H = p.2.2) (fun p => ⟨194, [(2, .ptr 2 0), (3, .ptr 3 0), (4, .ptr 4 0), (5, .ptr 5 0), (12, .ptr 12 0), (99, .pv (.int .i64 p.1))], [(12, .var (ints .u32 p.2.2)), (5, .var (ints .u32 w)), (4, .var (ints .u32 [0, 0, 0, 0, 0, 0, 0, 0])), (3, .var (ints .u8 B)), (2, .var (ints .u32 H))]⟩) (fun p => 64 - p.2.1) (0, 0, H) ⟨rfl, Nat.zero_le _, hH, foldR_zero _ _ _⟩ ?_ ?_
        ·
          refine SLe.eqv (by repeat (first | exact TmIn.nil | refine TmIn.cons rfl ?_)) (by repeat (first | exact BxIn.nil | refine BxIn.cons rfl ?_)) rfl
        clear ih h0 h1 hi i
        rintro ⟨i, k, v⟩ ⟨h0, h1, hv, hvf⟩ ih
        dsimp only at h0 h1 hv hvf ih ⊢
        by_cases hi : i < 64
        ·
          repeat (first | refine Run.seq ?_ | refine Run.skip ?_ | refine Run.block ?_)
          refine Run.region ?_
          first | refine O.cmp rfl rfl rfl (by first | exact decide_eq_true (by omega) | exact decide_eq_false (by omega)) rfl ?_ | refine O.cmp rfl rfl rfl rfl rfl ?_
          refine O.nil ?_
          try refine Run.keep [0, 1, 2, 3, 4, 5, 6, 7, 8, 9, 10, 11, 12, 13, 14, 15, 16, 17, 18, 19, 20, 21, 56, 99, 100, 181, 182] rfl rfl ?_
          repeat (first | refine Run.seq ?_ | refine Run.skip ?_)
          first | refine Run.condT rfl rfl ?_ | refine Run.condF rfl rfl ?_ | refine Run.condT rfl (by assumption) ?_ | refine Run.condF rfl (by assumption) ?_
          repeat (first | refine Run.seq ?_ | refine Run.skip ?_ | refine Run.block ?_)
          refine Run.region ?_
          refine O.move rfl rfl ?_
          refine O.assign rfl rfl ?_
          refine O.nil ?_
          try refine Run.keep [0, 1, 2, 3, 4, 5, 6, 7, 8, 9, 10, 11, 12, 13, 14, 15, 16, 17, 18, 19, 20, 21, 56, 99, 100, 181, 182] rfl rfl ?_
          repeat (first | refine Run.seq ?_ | refine Run.skip ?_ | refine Run.block ?_)
          refine Run.draw mixed rfl ?_
          first | refine D.ixS hE T36 rfl T29 rfl rfl rfl (by omega) (by omega) rfl ?_ | refine D.ixE hE T36 rfl T29 rfl (glo_ev (by assumption)) rfl (by omega) (by omega) rfl ?_
          first | refine D.loadS hE T29 rfl rfl rfl (ints_at (by first | omega | (simp only [List.length_set]; omega))) rfl ?_ | refine D.loadE hE T29 rfl rfl (drop_at (by omega)) rfl ?_ | refine D.load hE T29 rfl rfl rfl rfl ?_
          first | refine D.ixS hE T36 rfl T29 rfl rfl rfl (by omega) (by omega) rfl ?_ | refine D.ixE hE T36 rfl T29 rfl (glo_ev (by assumption)) rfl (by omega) (by omega) rfl ?_
          first | refine D.loadS hE T29 rfl rfl rfl (ints_at (by first | omega | (simp only [List.length_set]; omega))) rfl ?_ | refine D.loadE hE T29 rfl rfl (drop_at (by omega)) rfl ?_ | refine D.load hE T29 rfl rfl rfl rfl ?_
          refine D.assign rfl rfl ?_
          refine D.assign rfl rfl ?_
          refine Dr.nil ?_
          refine ⟨rfl, ?_⟩
          try refine Run.keep [0, 1, 2, 3, 4, 5, 6, 7, 8, 9, 10, 11, 12, 13, 14, 15, 16, 17, 18, 19, 20, 21, 56, 99, 100, 181, 182] rfl rfl ?_
          repeat (first | refine Run.seq ?_ | refine Run.skip ?_ | refine Run.block ?_)
          refine Run.region ?_
          refine O.move rfl rfl ?_
          refine O.callE (hR _ _) rfl (by first | rfl | simp [closed, men3, mens2_app, mens2_ints, mens2, men2, men1, mens1_app, mens1_ints, mens1]) (by first | rfl | simp [d2, ds1_ints, ds1_app, ds1, d1, ds0_app, ds0_ints, ds0, d0]) rfl ?_
          refine O.move rfl rfl ?_
          refine O.callE (hR _ _) rfl (by first | rfl | simp [closed, men3, mens2_app, mens2_ints, mens2, men2, men1, mens1_app, mens1_ints, mens1]) (by first | rfl | simp [d2, ds1_ints, ds1_app, ds1, d1, ds0_app, ds0_ints, ds0, d0]) rfl ?_
          refine O.bit rfl rfl rfl rfl ?_
          refine O.move rfl rfl ?_
          refine O.callE (hR _ _) rfl (by first | rfl | simp [closed, men3, mens2_app, mens2_ints, mens2, men2, men1, mens1_app, mens1_ints, mens1]) (by first | rfl | simp [d2, ds1_ints, ds1_app, ds1, d1, ds0_app, ds0_ints, ds0, d0]) rfl ?_
          refine O.bit rfl rfl rfl rfl ?_
          refine O.assign rfl rfl ?_
          refine O.nil ?_
          try refine Run.keep [0, 1, 2, 3, 4, 5, 6, 7, 8, 9, 10, 11, 12, 13, 14, 15, 16, 17, 18, 19, 20, 21, 56, 99, 100, 181, 182] rfl rfl ?_
          repeat (first | refine Run.seq ?_ | refine Run.skip ?_ | refine Run.block ?_)
          refine Run.draw mixed rfl ?_
          first | refine D.ixS hE T36 rfl T29 rfl rfl rfl (by omega) (by omega) rfl ?_ | refine D.ixE hE T36 rfl T29 rfl (glo_ev (by assumption)) rfl (by omega) (by omega) rfl ?_
          first | refine D.loadS hE T29 rfl rfl rfl (ints_at (by first | omega | (simp only [List.length_set]; omega))) rfl ?_ | refine D.loadE hE T29 rfl rfl (drop_at (by omega)) rfl ?_ | refine D.load hE T29 rfl rfl rfl rfl ?_
          refine D.move rfl rfl ?_
          refine D.ar rfl rfl rfl rfl rfl ?_
          refine D.move rfl rfl ?_
          first | refine D.ixS hE T36 rfl T29 rfl rfl rfl (by omega) (by omega) rfl ?_ | refine D.ixE hE T36 rfl T29 rfl (glo_ev (by assumption)) rfl (by omega) (by omega) rfl ?_
          first | refine D.loadS hE T29 rfl rfl rfl (ints_at (by first | omega | (simp only [List.length_set]; omega))) rfl ?_ | refine D.loadE hE T29 rfl rfl (drop_at (by omega)) rfl ?_ | refine D.load hE T29 rfl rfl rfl rfl ?_
          refine D.bit rfl rfl rfl rfl ?_
          refine D.move rfl rfl ?_
          refine D.notB rfl rfl ?_
          first | refine D.ixS hE T36 rfl T29 rfl rfl rfl (by omega) (by omega) rfl ?_ | refine D.ixE hE T36 rfl T29 rfl (glo_ev (by assumption)) rfl (by omega) (by omega) rfl ?_
          first | refine D.loadS hE T29 rfl rfl rfl (ints_at (by first | omega | (simp only [List.length_set]; omega))) rfl ?_ | refine D.loadE hE T29 rfl rfl (drop_at (by omega)) rfl ?_ | refine D.load hE T29 rfl rfl rfl rfl ?_
          refine D.bit rfl rfl rfl rfl ?_
          refine D.bit rfl rfl rfl rfl ?_
          refine D.ar rfl rfl rfl rfl rfl ?_
          refine D.move rfl rfl ?_
          first | refine D.ixS hE T111 rfl T29 rfl rfl rfl (by omega) (by omega) rfl ?_ | refine D.ixE hE T111 rfl T29 rfl (glo_ev (by assumption)) rfl (by omega) (by omega) rfl ?_
          first | refine D.loadS hE T29 rfl rfl rfl (ints_at (by first | omega | (simp only [List.length_set]; omega))) rfl ?_ | refine D.loadE hE T29 rfl rfl (drop_at (by omega)) rfl ?_ | refine D.load hE T29 rfl rfl rfl rfl ?_
          refine D.ar rfl rfl rfl rfl rfl ?_
          refine D.move rfl rfl ?_
          first | refine D.ixS hE T111 rfl T29 rfl rfl rfl (by omega) (by omega) rfl ?_ | refine D.ixE hE T111 rfl T29 rfl (glo_ev (by assumption)) rfl (by omega) (by omega) rfl ?_
          first | refine D.loadS hE T29 rfl rfl rfl (ints_at (by first | omega | (simp only [List.length_set]; omega))) rfl ?_ | refine D.loadE hE T29 rfl rfl (drop_at (by omega)) rfl ?_ | refine D.load hE T29 rfl rfl rfl rfl ?_
          refine D.ar rfl rfl rfl rfl rfl ?_
          refine D.assign rfl rfl ?_
          refine Dr.nil ?_
          refine ⟨rfl, ?_⟩
          try refine Run.keep [0, 1, 2, 3, 4, 5, 6, 7, 8, 9, 10, 11, 12, 13, 14, 15, 16, 17, 18, 19, 20, 21, 56, 99, 100, 181, 182] rfl rfl ?_
          repeat (first | refine Run.seq ?_ | refine Run.skip ?_ | refine Run.block ?_)
          refine Run.region ?_
          refine O.move rfl rfl ?_
          refine O.callE (hR _ _) rfl (by first | rfl | simp [closed, men3, mens2_app, mens2_ints, mens2, men2, men1, mens1_app, mens1_ints, mens1]) (by first | rfl | simp [d2, ds1_ints, ds1_app, ds1, d1, ds0_app, ds0_ints, ds0, d0]) rfl ?_
          refine O.move rfl rfl ?_
          refine O.callE (hR _ _) rfl (by first | rfl | simp [closed, men3, mens2_app, mens2_ints, mens2, men2, men1, mens1_app, mens1_ints, mens1]) (by first | rfl | simp [d2, ds1_ints, ds1_app, ds1, d1, ds0_app, ds0_ints, ds0, d0]) rfl ?_
          refine O.bit rfl rfl rfl rfl ?_
          refine O.move rfl rfl ?_
          refine O.callE (hR _ _) rfl (by first | rfl | simp [closed, men3, mens2_app, mens2_ints, mens2, men2, men1, mens1_app, mens1_ints, mens1]) (by first | rfl | simp [d2, ds1_ints, ds1_app, ds1, d1, ds0_app, ds0_ints, ds0, d0]) rfl ?_
          refine O.bit rfl rfl rfl rfl ?_
          refine O.assign rfl rfl ?_
          refine O.nil ?_
          try refine Run.keep [0, 1, 2, 3, 4, 5, 6, 7, 8, 9, 10, 11, 12, 13, 14, 15, 16, 17, 18, 19, 20, 21, 56, 99, 100, 181, 182] rfl rfl ?_
          repeat (first | refine Run.seq ?_ | refine Run.skip ?_ | refine Run.block ?_)
          refine Run.region ?_
          refine O.move rfl rfl ?_
          refine O.move rfl rfl ?_
          first | refine O.ixS hE T36 rfl T29 rfl rfl rfl (by omega) (by omega) rfl ?_ | refine O.ixE hE T36 rfl T29 rfl (glo_ev (by assumption)) rfl (by omega) (by omega) rfl ?_
          first | refine O.loadS hE T29 rfl rfl rfl (ints_at (by first | omega | (simp only [List.length_set]; omega))) rfl ?_ | refine O.loadE hE T29 rfl rfl (drop_at (by omega)) rfl ?_ | refine O.load hE T29 rfl rfl rfl rfl ?_
          refine O.bit rfl rfl rfl rfl ?_
          refine O.move rfl rfl ?_
          first | refine O.ixS hE T36 rfl T29 rfl rfl rfl (by omega) (by omega) rfl ?_ | refine O.ixE hE T36 rfl T29 rfl (glo_ev (by assumption)) rfl (by omega) (by omega) rfl ?_
          first | refine O.loadS hE T29 rfl rfl rfl (ints_at (by first | omega | (simp only [List.length_set]; omega))) rfl ?_ | refine O.loadE hE T29 rfl rfl (drop_at (by omega)) rfl ?_ | refine O.load hE T29 rfl rfl rfl rfl ?_
          refine O.bit rfl rfl rfl rfl ?_
          refine O.bit rfl rfl rfl rfl ?_
          first | refine O.ixS hE T36 rfl T29 rfl rfl rfl (by omega) (by omega) rfl ?_ | refine O.ixE hE T36 rfl T29 rfl (glo_ev (by assumption)) rfl (by omega) (by omega) rfl ?_
          first | refine O.loadS hE T29 rfl rfl rfl (ints_at (by first | omega | (simp only [List.length_set]; omega))) rfl ?_ | refine O.loadE hE T29 rfl rfl (drop_at (by omega)) rfl ?_ | refine O.load hE T29 rfl rfl rfl rfl ?_
          first | refine O.ixS hE T36 rfl T29 rfl rfl rfl (by omega) (by omega) rfl ?_ | refine O.ixE hE T36 rfl T29 rfl (glo_ev (by assumption)) rfl (by omega) (by omega) rfl ?_
          first | refine O.loadS hE T29 rfl rfl rfl (ints_at (by first | omega | (simp only [List.length_set]; omega))) rfl ?_ | refine O.loadE hE T29 rfl rfl (drop_at (by omega)) rfl ?_ | refine O.load hE T29 rfl rfl rfl rfl ?_
          refine O.bit rfl rfl rfl rfl ?_
          refine O.bit rfl rfl rfl rfl ?_
          refine O.ar rfl rfl rfl rfl rfl ?_
          refine O.assign rfl rfl ?_
          refine O.nil ?_
          try refine Run.keep [0, 1, 2, 3, 4, 5, 6, 7, 8, 9, 10, 11, 12, 13, 14, 15, 16, 17, 18, 19, 20, 21, 56, 99, 100, 181, 182] rfl rfl ?_
          repeat (first | refine Run.seq ?_ | refine Run.skip ?_ | refine Run.block ?_)
          refine Run.region ?_
          refine O.move rfl rfl ?_
          refine O.move rfl rfl ?_
          refine O.ar rfl rfl rfl rfl rfl ?_
          refine O.move rfl rfl ?_
          first | refine O.ixS hE T36 rfl T29 rfl rfl rfl (by omega) (by omega) rfl ?_ | refine O.ixE hE T36 rfl T29 rfl (glo_ev (by assumption)) rfl (by omega) (by omega) rfl ?_
          first | refine O.loadS hE T29 rfl rfl rfl (ints_at (by first | omega | (simp only [List.length_set]; omega))) rfl ?_ | refine O.loadE hE T29 rfl rfl (drop_at (by omega)) rfl ?_ | refine O.load hE T29 rfl rfl rfl rfl ?_
          first | refine O.ixS hE T36 rfl T29 rfl rfl rfl (by omega) (by omega) rfl ?_ | refine O.ixE hE T36 rfl T29 rfl (glo_ev (by assumption)) rfl (by omega) (by omega) rfl ?_
          first | refine O.loadS hE T29 rfl rfl rfl (ints_at (by first | omega | (simp only [List.length_set]; omega))) rfl ?_ | refine O.loadE hE T29 rfl rfl (drop_at (by omega)) rfl ?_ | refine O.load hE T29 rfl rfl rfl rfl ?_
          first | refine O.ixS hE T36 rfl T29 rfl rfl rfl (by omega) (by omega) rfl ?_ | refine O.ixE hE T36 rfl T29 rfl (glo_ev (by assumption)) rfl (by omega) (by omega) rfl ?_
          first | refine O.loadS hE T29 rfl rfl rfl (ints_at (by first | omega | (simp only [List.length_set]; omega))) rfl ?_ | refine O.loadE hE T29 rfl rfl (drop_at (by omega)) rfl ?_ | refine O.load hE T29 rfl rfl rfl rfl ?_
          refine O.move rfl rfl ?_
          refine O.ar rfl rfl rfl rfl rfl ?_
          refine O.move rfl rfl ?_
          first | refine O.ixS hE T36 rfl T29 rfl rfl rfl (by omega) (by omega) rfl ?_ | refine O.ixE hE T36 rfl T29 rfl (glo_ev (by assumption)) rfl (by omega) (by omega) rfl ?_
          first | refine O.loadS hE T29 rfl rfl rfl (ints_at (by first | omega | (simp only [List.length_set]; omega))) rfl ?_ | refine O.loadE hE T29 rfl rfl (drop_at (by omega)) rfl ?_ | refine O.load hE T29 rfl rfl rfl rfl ?_
          first | refine O.ixS hE T36 rfl T29 rfl rfl rfl (by omega) (by omega) rfl ?_ | refine O.ixE hE T36 rfl T29 rfl (glo_ev (by assumption)) rfl (by omega) (by omega) rfl ?_
          first | refine O.loadS hE T29 rfl rfl rfl (ints_at (by first | omega | (simp only [List.length_set]; omega))) rfl ?_ | refine O.loadE hE T29 rfl rfl (drop_at (by omega)) rfl ?_ | refine O.load hE T29 rfl rfl rfl rfl ?_
          refine O.buildArr hE T36 rfl T29 rfl rfl rfl ?_
          first | refine O.storeS hE T36 rfl rfl (by first | rfl | exact cells_ones (by simp [ones_app, ones_ints, ones, AV.one, PV.one])) rfl (by first | rfl | simp [ints_len, *]) (by simp [ints_len, *] <;> omega) (by first | exact setAt_ints (by first | omega | (simp only [List.length_set]; omega)) | exact set8 (by simp [ints_len, *]) | exact setAt_all _ _ (by simp [ints_len, *])) ?_ | refine O.store hE T36 rfl rfl rfl rfl rfl rfl ?_
          refine O.nil ?_
          try refine Run.keep [0, 1, 2, 3, 4, 5, 6, 7, 8, 9, 10, 11, 12, 13, 14, 15, 16, 17, 18, 19, 20, 21, 56, 99, 100, 181, 182] rfl rfl ?_
          repeat (first | refine Run.seq ?_ | refine Run.skip ?_ | refine Run.block ?_)
          refine Run.region ?_
          first | refine O.ar rfl rfl rfl (by exact wrap_i64 (by omega) (by omega)) rfl ?_ | refine O.ar rfl rfl rfl rfl rfl ?_
          refine O.move rfl rfl ?_
          refine O.nil ?_
          try refine Run.keep [0, 1, 2, 3, 4, 5, 6, 7, 8, 9, 10, 11, 12, 13, 14, 15, 16, 17, 18, 19, 20, 21, 56, 99, 100, 181, 182] rfl rfl ?_
          exact ih (i + 1, k + 1, step3 ks w v i) _ (by refine SLe.eqv (by repeat (first | exact TmIn.nil | refine TmIn.cons rfl ?_)) (by repeat (first | exact BxIn.nil | refine BxIn.cons rfl ?_)) rfl) ⟨by dsimp only; omega, by dsimp only; omega, by first | rfl | (simp only [step1, step2, step4, List.length_set]; assumption), by dsimp only; rw [foldR_succ, hvf, h0]⟩ (by dsimp only; omega)
        ·
          repeat (first | refine Run.seq ?_ | refine Run.skip ?_ | refine Run.block ?_)
          refine Run.region ?_
          first | refine O.cmp rfl rfl rfl (by first | exact decide_eq_true (by omega) | exact decide_eq_false (by omega)) rfl ?_ | refine O.cmp rfl rfl rfl rfl rfl ?_
          refine O.nil ?_
          try refine Run.keep [0, 1, 2, 3, 4, 5, 6, 7, 8, 9, 10, 11, 12, 13, 14, 15, 16, 17, 18, 19, 20, 21, 56, 99, 100, 181, 182] rfl rfl ?_
          repeat (first | refine Run.seq ?_ | refine Run.skip ?_)
          first | refine Run.condT rfl rfl ?_ | refine Run.condF rfl rfl ?_ | refine Run.condT rfl (by assumption) ?_ | refine Run.condF rfl (by assumption) ?_
          obtain rfl : k = 64 := by omega
          refine Run.exit ?_
          repeat (first | refine thenR_exit ?_ | refine roundR_exit ?_ | refine blockR_exit ?_ | refine blockR_pass rfl ?_)
          repeat (first | refine Run.seq ?_ | refine Run.skip ?_ | refine Run.block ?_)
          refine Run.region ?_
          refine O.move rfl rfl ?_
          refine O.nil ?_
          try refine Run.keep [0, 1, 2, 3, 4, 5, 6, 7, 8, 9, 10, 11, 12, 13, 14, 15, 16, 17, 18, 19, 20, 21, 56, 99, 100, 181, 182] rfl rfl ?_
          refine Run.block ?_
          refine Run.loopInv (ι := Int × Nat × List Int) (fun p => p.1 = 0 + (p.2.1 : Int) ∧ p.2.1 ≤ 8 ∧ p.2.2.length = 8 ∧ foldR (step4 H) 0 p.2.1 (foldR (step3 ks w) 0 64 H) = p.2.2) (fun p => ⟨194, [(2, .ptr 2 0), (4, .ptr 4 0), (12, .ptr 12 0), (181, .pv (.int .i64 p.1))], [(12, .var (ints .u32 p.2.2)), (5, .var (ints .u32 w)), (4, .var (ints .u32 [0, 0, 0, 0, 0, 0, 0, 0])), (3, .var (ints .u8 B)), (2, .var (ints .u32 H))]⟩) (fun p => 8 - p.2.1) (0, 0, v) ⟨rfl, Nat.zero_le _, hv, (foldR_zero _ _ _).trans hvf⟩ ?_ ?_
          ·
            refine SLe.eqv (by repeat (first | exact TmIn.nil | refine TmIn.cons rfl ?_)) (by repeat (first | exact BxIn.nil | refine BxIn.cons rfl ?_)) rfl
          clear ih h0 h1 hi i hv hvf v
          rintro ⟨i, k, v⟩ ⟨h0, h1, hv, hvf⟩ ih
          dsimp only at h0 h1 hv hvf ih ⊢
          by_cases hi : i < 8
          ·
            repeat (first | refine Run.seq ?_ | refine Run.skip ?_ | refine Run.block ?_)
            refine Run.region ?_
            first | refine O.cmp rfl rfl rfl (by first | exact decide_eq_true (by omega) | exact decide_eq_false (by omega)) rfl ?_ | refine O.cmp rfl rfl rfl rfl rfl ?_
            refine O.nil ?_
            try refine Run.keep [0, 1, 2, 3, 4, 5, 6, 7, 8, 9, 10, 11, 12, 13, 14, 15, 16, 17, 18, 19, 20, 21, 56, 99, 100, 181, 182] rfl rfl ?_
            repeat (first | refine Run.seq ?_ | refine Run.skip ?_)
            first | refine Run.condT rfl rfl ?_ | refine Run.condF rfl rfl ?_ | refine Run.condT rfl (by assumption) ?_ | refine Run.condF rfl (by assumption) ?_
            repeat (first | refine Run.seq ?_ | refine Run.skip ?_ | refine Run.block ?_)
            refine Run.region ?_
            refine O.move rfl rfl ?_
            refine O.assign rfl rfl ?_
            refine O.nil ?_
            try refine Run.keep [0, 1, 2, 3, 4, 5, 6, 7, 8, 9, 10, 11, 12, 13, 14, 15, 16, 17, 18, 19, 20, 21, 56, 99, 100, 181, 182] rfl rfl ?_
            repeat (first | refine Run.seq ?_ | refine Run.skip ?_ | refine Run.block ?_)
            refine Run.draw mixed rfl ?_
            refine D.move rfl rfl ?_
            first | refine D.ixS hE T36 rfl T29 rfl rfl rfl (by omega) (by omega) rfl ?_ | refine D.ixE hE T36 rfl T29 rfl (glo_ev (by assumption)) rfl (by omega) (by omega) rfl ?_
            first | refine D.loadS hE T29 rfl rfl rfl (ints_at (by first | omega | (simp only [List.length_set]; omega))) rfl ?_ | refine D.loadE hE T29 rfl rfl (drop_at (by omega)) rfl ?_ | refine D.load hE T29 rfl rfl rfl rfl ?_
            refine D.move rfl rfl ?_
            first | refine D.ixS hE T36 rfl T29 rfl rfl rfl (by omega) (by omega) rfl ?_ | refine D.ixE hE T36 rfl T29 rfl (glo_ev (by assumption)) rfl (by omega) (by omega) rfl ?_
            first | refine D.loadS hE T29 rfl rfl rfl (ints_at (by first | omega | (simp only [List.length_set]; omega))) rfl ?_ | refine D.loadE hE T29 rfl rfl (drop_at (by omega)) rfl ?_ | refine D.load hE T29 rfl rfl rfl rfl ?_
            refine D.ar rfl rfl rfl rfl rfl ?_
            first | refine D.ixS hE T36 rfl T29 rfl rfl rfl (by omega) (by omega) rfl ?_ | refine D.ixE hE T36 rfl T29 rfl (glo_ev (by assumption)) rfl (by omega) (by omega) rfl ?_
            first | refine D.storeS hE T29 rfl rfl (by first | rfl | exact cells_ones (by simp [ones_app, ones_ints, ones, AV.one, PV.one])) rfl (by first | rfl | simp [ints_len, *]) (by simp [ints_len, *] <;> omega) (by first | exact setAt_ints (by first | omega | (simp only [List.length_set]; omega)) | exact set8 (by simp [ints_len, *]) | exact setAt_all _ _ (by simp [ints_len, *])) ?_ | refine D.store hE T29 rfl rfl rfl rfl rfl rfl ?_
            refine Dr.nil ?_
            refine ⟨rfl, ?_⟩
            try refine Run.keep [0, 1, 2, 3, 4, 5, 6, 7, 8, 9, 10, 11, 12, 13, 14, 15, 16, 17, 18, 19, 20, 21, 56, 99, 100, 181, 182] rfl rfl ?_
            repeat (first | refine Run.seq ?_ | refine Run.skip ?_ | refine Run.block ?_)
            refine Run.region ?_
            first | refine O.ar rfl rfl rfl (by exact wrap_i64 (by omega) (by omega)) rfl ?_ | refine O.ar rfl rfl rfl rfl rfl ?_
            refine O.move rfl rfl ?_
            refine O.nil ?_
            try refine Run.keep [0, 1, 2, 3, 4, 5, 6, 7, 8, 9, 10, 11, 12, 13, 14, 15, 16, 17, 18, 19, 20, 21, 56, 99, 100, 181, 182] rfl rfl ?_
            exact ih (i + 1, k + 1, step4 H v i) _ (by refine SLe.eqv (by repeat (first | exact TmIn.nil | refine TmIn.cons rfl ?_)) (by repeat (first | exact BxIn.nil | refine BxIn.cons rfl ?_)) rfl) ⟨by dsimp only; omega, by dsimp only; omega, by first | rfl | (simp only [step1, step2, step4, List.length_set]; assumption), by dsimp only; rw [foldR_succ, hvf, h0]⟩ (by dsimp only; omega)
          ·
            repeat (first | refine Run.seq ?_ | refine Run.skip ?_ | refine Run.block ?_)
            refine Run.region ?_
            first | refine O.cmp rfl rfl rfl (by first | exact decide_eq_true (by omega) | exact decide_eq_false (by omega)) rfl ?_ | refine O.cmp rfl rfl rfl rfl rfl ?_
            refine O.nil ?_
            try refine Run.keep [0, 1, 2, 3, 4, 5, 6, 7, 8, 9, 10, 11, 12, 13, 14, 15, 16, 17, 18, 19, 20, 21, 56, 99, 100, 181, 182] rfl rfl ?_
            repeat (first | refine Run.seq ?_ | refine Run.skip ?_)
            first | refine Run.condT rfl rfl ?_ | refine Run.condF rfl rfl ?_ | refine Run.condT rfl (by assumption) ?_ | refine Run.condF rfl (by assumption) ?_
            obtain rfl : k = 8 := by omega
            refine Run.exit ?_
            repeat (first | refine thenR_exit ?_ | refine roundR_exit ?_ | refine blockR_exit ?_ | refine blockR_pass rfl ?_)
            repeat (first | refine Run.seq ?_ | refine Run.skip ?_ | refine Run.block ?_)
            refine Run.region ?_
            first | refine O.loadA hE T36 rfl rfl rfl (ints_take (by assumption)) (by simp [ints_len, *]) rfl ?_ | refine O.load hE T36 rfl rfl rfl rfl ?_
            first | refine O.storeS hE T36 rfl rfl (by first | rfl | exact cells_ones (by simp [ones_app, ones_ints, ones, AV.one, PV.one])) rfl (by first | rfl | simp [ints_len, *]) (by simp [ints_len, *] <;> omega) (by first | exact setAt_ints (by first | omega | (simp only [List.length_set]; omega)) | exact set8 (by simp [ints_len, *]) | exact setAt_all _ _ (by simp [ints_len, *])) ?_ | refine O.store hE T36 rfl rfl rfl rfl rfl rfl ?_
            refine O.nil ?_
            try refine Run.keep [0, 1, 2, 3, 4, 5, 6, 7, 8, 9, 10, 11, 12, 13, 14, 15, 16, 17, 18, 19, 20, 21, 56, 99, 100, 181, 182] rfl rfl ?_
            refine Run.ret ?_
            have hvF : v = fin := by
              rw [← hvf, ← hfin]
              unfold turnP words
              rw [hwf]
            subst hvF
            exact ⟨_, ⟨hv, rfl⟩, Ends.ex hE (.inr rfl) (.cell rfl rfl T36 rfl (by simp [ints_len, hv]) .nil) rfl (mens2_ints _)⟩
end Go.Proofs.YtcbdhdblchmofaaDoor.Vm
