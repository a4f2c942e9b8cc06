/- SHA-256: a sum under a key that is not longer than a block. Conditions: the table of steps has 64 words. -/
import Derived.Test.YthpenjbpaegpgaaDoorShaE
import Derived.Test.YthpenjbpaegpgaaDoorVmEnv
namespace Go.Proofs.YthpenjbpaegpgaaDoor.Vm
open Go Go.RowKit
set_option linter.unusedVariables false
set_option linter.unusedSimpArgs false
attribute [local irreducible] Ops Dr Run
variable {g : Nat → Option (List PV)}
def padL (q : List Int) : List Int := q ++ List.replicate (64 - q.length) 0
theorem padK {q : List Int} (h : q.length ≤ 64) : setAt (ints .u8 (List.replicate 64 0)) 0 (ints .u8 q) = ints .u8 (padL q) := by
  unfold setAt padL
  rw [ints_len, List.take_zero, List.nil_append, Nat.zero_add, ints_app]
  congr 1
  simp only [ints, List.map_replicate, List.drop_replicate]
def bitX (z c : Int) : Int := IntKind.u8.wrap (BitVec.ofInt IntKind.u8.bits z ^^^ BitVec.ofInt IntKind.u8.bits c).toNat
def xorL (q : List Int) (c : Int) : List Int := (List.range 64).map fun (j : Nat) => bitX ((padL q).getD (0 + (j : Int).toNat) 0) c
def macP (T : List Int → List Int → List Int) (key b : List Int) : List Int :=
  endP T (feedP T (feedP T begin0 (xorL key 92)) (endP T (feedP T (feedP T begin0 (xorL key 54)) b)))
theorem macP_len {T : List Int → List Int → List Int} (q b : List Int) : (macP T q b).length = 32 := by simp [macP, endP]
theorem xor_step {q : List Int} {c : Int} {i : Nat} {out : List Int} (h : out = (List.range 64).map (fun (j : Nat) => if j < i then bitX ((padL q).getD (0 + (j : Int).toNat) 0) c else 0)) : out.set (0 + (i : Int).toNat) (bitX ((padL q).getD (0 + (i : Int).toNat) 0) c) = (List.range 64).map (fun (j : Nat) => if j < i + 1 then bitX ((padL q).getD (0 + (j : Int).toNat) 0) c else 0) := by
  rw [h]
  refine List.ext_getElem (by simp) fun j h1 h2 => ?_
  simp only [List.getElem_set, List.getElem_map, List.getElem_range]
  have : (0 + (i : Int).toNat = j) ↔ i = j := by omega
  simp only [this]
  by_cases e : i = j
  · subst e
    rw [if_pos rfl, if_pos (by omega)]
  · rw [if_neg e]
    by_cases e2 : j < i
    · rw [if_pos e2, if_pos (by omega)]
    · rw [if_neg e2, if_neg (by omega)]
theorem padL_len {q : List Int} (h : q.length ≤ 64) : (padL q).length = 64 := by simp [padL]; omega
theorem endP_len {T : List Int → List Int → List Int} (s : Sm) : (endP T s).length = 32 := by simp [endP]
theorem padL_def (q : List Int) : q ++ List.replicate (64 - q.length) 0 = padL q := rfl
theorem xorL_of {q : List Int} {c : Int} {o : List Int} (h : o = (List.range 64).map (fun (j : Nat) => if j < 64 then bitX ((padL q).getD (0 + (j : Int).toNat) 0) c else 0)) : o = xorL q c := by
  rw [h]
  exact List.map_congr_left fun j hj => by rw [if_pos (List.mem_range.1 hj)]
attribute [local irreducible] xorL padL feedP endP
theorem fnMac {T : List Int → List Int → List Int} (hT : Feeds g T) {q b : List Int} (hq : q.length ≤ 64) (hb : b.length < 1000000000000000000) : FnC (En Tryd.prog g) 25 [.pv (bys q), .pv (bys b)] (.agg (ints .u8 (macP T q b))) [] := by
  have hE := EnOk g
  have hlen : (q.map (PV.int .u8)).length = q.length := by simp
  refine FnC.of Tryd.func25 rfl rfl rfl rfl ?_
  repeat (first | refine Run.seq ?_ | refine Run.skip ?_ | refine Run.block ?_)
  refine Run.region ?_
  first | refine O.allocS hE 4 T55 ints_zero rfl rfl ?_ | refine O.alloc hE 4 T55 rfl rfl rfl ?_
  refine O.nil ?_
  try refine Run.keep [0, 1, 4, 5, 6, 7, 8, 9, 10, 13, 22, 23] rfl rfl ?_
  repeat (first | refine Run.seq ?_ | refine Run.skip ?_ | refine Run.block ?_)
  refine Run.region ?_
  first | refine O.allocS hE 5 T65 ints_zero rfl rfl ?_ | refine O.alloc hE 5 T65 rfl rfl rfl ?_
  refine O.nil ?_
  try refine Run.keep [0, 1, 4, 5, 6, 7, 8, 9, 10, 13, 22, 23] rfl rfl ?_
  repeat (first | refine Run.seq ?_ | refine Run.skip ?_ | refine Run.block ?_)
  refine Run.region ?_
  refine O.move rfl rfl ?_
  first | refine O.lenN hE T31 rfl rfl rfl (by first | exact newest_pv | exact newest_gl rfl rfl | trivial) lenC rfl ?_ | refine O.lenLst hE T31 rfl rfl rfl (by first | exact newest_pv | exact newest_gl rfl rfl | trivial) rfl ?_
  first | refine O.cmp rfl rfl rfl (by first | exact decide_eq_true (by omega) | exact decide_eq_false (by omega)) rfl ?_ | refine O.cmp rfl rfl rfl rfl rfl ?_
  refine O.nil ?_
  try refine Run.keep [0, 1, 4, 5, 6, 7, 8, 9, 10, 13, 22, 23] rfl rfl ?_
  repeat (first | refine Run.seq ?_ | refine Run.skip ?_)
  first | refine Run.condT rfl rfl ?_ | refine Run.condF rfl rfl ?_ | refine Run.condT rfl (by assumption) ?_ | refine Run.condF rfl (by assumption) ?_
  repeat (first | refine Run.seq ?_ | refine Run.skip ?_ | refine Run.block ?_)
  refine Run.region ?_
  first | refine O.sliceE hE T65 rfl T5 rfl (by first | assumption | simp [*]) rfl rfl ?_ | refine O.sliceW hE T65 rfl T5 rfl rfl rfl ?_
  refine O.move rfl rfl ?_
  refine O.copyW hE T31 rfl T5 rfl rfl rfl rfl (by first | exact newest_pv | exact newest_gl rfl rfl | trivial) (by omega) rfl (by simp [ints_len, *] <;> omega) (padK (by assumption)) rfl ?_
  refine O.nil ?_
  try refine Run.keep [0, 1, 4, 5, 6, 7, 8, 9, 10, 13, 22, 23] rfl rfl ?_
  repeat (first | refine Run.seq ?_ | refine Run.skip ?_ | refine Run.block ?_)
  refine Run.region ?_
  first | refine O.allocS hE 7 T65 ints_zero rfl rfl ?_ | refine O.alloc hE 7 T65 rfl rfl rfl ?_
  first | refine O.allocS hE 8 T65 ints_zero rfl rfl ?_ | refine O.alloc hE 8 T65 rfl rfl rfl ?_
  refine O.nil ?_
  try refine Run.keep [0, 1, 4, 5, 6, 7, 8, 9, 10, 13, 22, 23] rfl rfl ?_
  repeat (first | refine Run.seq ?_ | refine Run.skip ?_ | refine Run.block ?_)
  refine Run.region ?_
  refine O.move rfl rfl ?_
  refine O.nil ?_
  try refine Run.keep [0, 1, 4, 5, 6, 7, 8, 9, 10, 13, 22, 23] rfl rfl ?_
  repeat (first | refine Run.seq ?_ | refine Run.skip ?_)
  refine Run.block ?_
  have hpl : (padL q).length = 64 := padL_len hq
  refine Run.loopInv (ι := Nat × List Int × List Int) (fun p => p.1 ≤ 64 ∧ p.2.1 = (List.range 64).map (fun (j : Nat) => if j < p.1 then bitX ((padL q).getD (0 + (j : Int).toNat) 0) 54 else 0) ∧ p.2.2 = (List.range 64).map (fun (j : Nat) => if j < p.1 then bitX ((padL q).getD (0 + (j : Int).toNat) 0) 92 else 0))
    (fun p => ⟨50, [(1, .pv (bys b)), (4, .ptr 4 0), (5, .ptr 5 0), (7, .ptr 7 0), (8, .ptr 8 0), (22, .pv (.int .i64 p.1))], [(5, .var (ints .u8 (padL q))), (7, .var (ints .u8 p.2.1)), (8, .var (ints .u8 p.2.2)), (4, .var (ints .u8 (List.replicate 32 0)))]⟩) (fun p => 64 - p.1) (0, List.replicate 64 0, List.replicate 64 0) ⟨by omega, rfl, rfl⟩ ?_ ?_
  ·
    refine SLe.eqv (by repeat (first | exact TmIn.nil | refine TmIn.cons rfl ?_)) (by repeat (first | exact BxIn.nil | refine BxIn.cons rfl ?_)) rfl
  rintro ⟨i, o1, o2⟩ ⟨hi, h1, h2⟩ ih
  dsimp only at hi h1 h2 ih ⊢
  have l1 : o1.length = 64 := by rw [h1]; simp
  have l2 : o2.length = 64 := by rw [h2]; simp
  by_cases hlt : i < 64
  ·
    repeat (first | refine Run.seq ?_ | refine Run.skip ?_ | refine Run.block ?_)
    refine Run.region ?_
    first | refine O.cmp rfl rfl rfl (by first | exact decide_eq_true (by omega) | exact decide_eq_false (by omega)) rfl ?_ | refine O.cmp rfl rfl rfl rfl rfl ?_
    refine O.nil ?_
    try refine Run.keep [0, 1, 4, 5, 6, 7, 8, 9, 10, 13, 22, 23] rfl rfl ?_
    repeat (first | refine Run.seq ?_ | refine Run.skip ?_)
    first | refine Run.condT rfl rfl ?_ | refine Run.condF rfl rfl ?_ | refine Run.condT rfl (by assumption) ?_ | refine Run.condF rfl (by assumption) ?_
    repeat (first | refine Run.seq ?_ | refine Run.skip ?_ | refine Run.block ?_)
    refine Run.region ?_
    refine O.move rfl rfl ?_
    refine O.assign rfl rfl ?_
    refine O.nil ?_
    try refine Run.keep [0, 1, 4, 5, 6, 7, 8, 9, 10, 13, 22, 23] rfl rfl ?_
    repeat (first | refine Run.seq ?_ | refine Run.skip ?_ | refine Run.block ?_)
    refine Run.draw mixed rfl ?_
    refine D.move rfl rfl ?_
    refine D.move rfl rfl ?_
    refine D.move rfl rfl ?_
    first | refine D.ixS hE T65 rfl T5 rfl rfl rfl (by omega) (by omega) rfl ?_ | refine D.ixE hE T65 rfl T5 rfl (glo_ev (by assumption)) rfl (by omega) (by omega) rfl ?_
    first | refine D.loadS hE T5 rfl rfl rfl (ints_at (by first | omega | (simp only [List.length_set]; omega))) rfl ?_ | refine D.loadE hE T5 rfl rfl (by rfl) rfl ?_ | refine D.load hE T5 rfl rfl rfl rfl ?_
    refine D.bit rfl rfl rfl rfl ?_
    refine D.move rfl rfl ?_
    first | refine D.ixS hE T65 rfl T5 rfl rfl rfl (by omega) (by omega) rfl ?_ | refine D.ixE hE T65 rfl T5 rfl (glo_ev (by assumption)) rfl (by omega) (by omega) rfl ?_
    first | refine D.loadS hE T5 rfl rfl rfl (ints_at (by first | omega | (simp only [List.length_set]; omega))) rfl ?_ | refine D.loadE hE T5 rfl rfl (by rfl) rfl ?_ | refine D.load hE T5 rfl rfl rfl rfl ?_
    refine D.bit rfl rfl rfl rfl ?_
    first | refine D.ixS hE T65 rfl T5 rfl rfl rfl (by omega) (by omega) rfl ?_ | refine D.ixE hE T65 rfl T5 rfl (glo_ev (by assumption)) rfl (by omega) (by omega) rfl ?_
    first | refine D.storeS hE T5 rfl rfl (by first | rfl | exact cells_ones (by simp [ones_app, ones_ints, ones, AV.one, PV.one])) rfl (by first | rfl | simp [ints_len, *]) (by simp [ints_len, *] <;> omega) (by first | exact setAt_ints (by first | omega | (simp only [List.length_set]; omega)) | exact setAt_all _ _ (by simp [ints_len, *])) ?_ | refine D.store hE T5 rfl rfl rfl rfl rfl rfl ?_
    first | refine D.ixS hE T65 rfl T5 rfl rfl rfl (by omega) (by omega) rfl ?_ | refine D.ixE hE T65 rfl T5 rfl (glo_ev (by assumption)) rfl (by omega) (by omega) rfl ?_
    first | refine D.storeS hE T5 rfl rfl (by first | rfl | exact cells_ones (by simp [ones_app, ones_ints, ones, AV.one, PV.one])) rfl (by first | rfl | simp [ints_len, *]) (by simp [ints_len, *] <;> omega) (by first | exact setAt_ints (by first | omega | (simp only [List.length_set]; omega)) | exact setAt_all _ _ (by simp [ints_len, *])) ?_ | refine D.store hE T5 rfl rfl rfl rfl rfl rfl ?_
    refine Dr.nil ?_
    refine ⟨rfl, ?_⟩
    try refine Run.keep [0, 1, 4, 5, 6, 7, 8, 9, 10, 13, 22, 23] rfl rfl ?_
    repeat (first | refine Run.seq ?_ | refine Run.skip ?_ | refine Run.block ?_)
    refine Run.region ?_
    first | refine O.ar rfl rfl rfl (by exact wrap_i64 (by omega) (by omega)) rfl ?_ | refine O.ar rfl rfl rfl rfl rfl ?_
    refine O.move rfl rfl ?_
    refine O.nil ?_
    try refine Run.keep [0, 1, 4, 5, 6, 7, 8, 9, 10, 13, 22, 23] rfl rfl ?_
    exact ih (i + 1, o1.set (0 + (i : Int).toNat) (bitX ((padL q).getD (0 + (i : Int).toNat) 0) 54), o2.set (0 + (i : Int).toNat) (bitX ((padL q).getD (0 + (i : Int).toNat) 0) 92)) _ (by refine SLe.eqv (by repeat (first | exact TmIn.nil | refine TmIn.cons rfl ?_)) (by repeat (first | exact BxIn.nil | refine BxIn.cons rfl ?_)) rfl) ⟨by dsimp only; omega, xor_step h1, xor_step h2⟩ (by dsimp only; omega)
  obtain rfl : i = 64 := by omega
  have e1 : o1 = xorL q 54 := xorL_of h1
  have e2 : o2 = xorL q 92 := xorL_of h2
  subst e1
  subst e2
  repeat (first | refine Run.seq ?_ | refine Run.skip ?_ | refine Run.block ?_)
  refine Run.region ?_
  first | refine O.cmp rfl rfl rfl (by first | exact decide_eq_true (by omega) | exact decide_eq_false (by omega)) rfl ?_ | refine O.cmp rfl rfl rfl rfl rfl ?_
  refine O.nil ?_
  try refine Run.keep [0, 1, 4, 5, 6, 7, 8, 9, 10, 13, 22, 23] rfl rfl ?_
  repeat (first | refine Run.seq ?_ | refine Run.skip ?_)
  first | refine Run.condT rfl rfl ?_ | refine Run.condF rfl rfl ?_ | refine Run.condT rfl (by assumption) ?_ | refine Run.condF rfl (by assumption) ?_
  refine Run.exit ?_
  repeat (first | refine thenR_exit ?_ | refine roundR_exit ?_ | refine blockR_exit ?_ | refine blockR_pass rfl ?_)
  refine Run.freezeI (tm' := [(1, .pv (bys b)), (4, .ptr 4 0), (7, .eptr ((xorL q 54).map (PV.int .u8))), (8, .ptr 8 0)]) (bx' := [(8, .var (ints .u8 (xorL q 92))), (4, .var (ints .u8 (List.replicate 32 0)))]) 7 rfl (by repeat (first | exact TmFz.nil | refine TmFz.keep rfl ?_ | refine TmFz.fz rfl rfl ?_)) (by repeat (first | exact BxIn.nil | refine BxIn.cons rfl ?_)) rfl (by first | rfl | simp [mtm, men3, mens2_app, mens2_ints, mens2, men2, men1, has, look]) (by first | rfl | simp [mbx, menB, mens2_app, mens2_ints, mens2, men2, men1]) ?_
  refine Run.freezeI (tm' := [(1, .pv (bys b)), (4, .ptr 4 0), (7, .eptr ((xorL q 54).map (PV.int .u8))), (8, .eptr ((xorL q 92).map (PV.int .u8)))]) (bx' := [(4, .var (ints .u8 (List.replicate 32 0)))]) 8 rfl (by repeat (first | exact TmFz.nil | refine TmFz.keep rfl ?_ | refine TmFz.fz rfl rfl ?_)) (by repeat (first | exact BxIn.nil | refine BxIn.cons rfl ?_)) rfl (by first | rfl | simp [mtm, men3, mens2_app, mens2_ints, mens2, men2, men1, has, look]) (by first | rfl | simp [mbx, menB, mens2_app, mens2_ints, mens2, men2, men1]) ?_
  clear ih h1 h2 hlt hi
  have c1 := fnBegin (g := g)
  have c2 := hT.2 begin0 (xorL q 54) begin_ok (by decide) (by rw [l1]; decide)
  obtain ⟨g1, g2⟩ := feedP_ok hT.1 begin_ok (xorL q 54)
  have g3 : (feedP T begin0 (xorL q 54)).L = 64 := by rw [g2, l1]; rfl
  have c3 := hT.2 (feedP T begin0 (xorL q 54)) b g1 (by omega) (by omega)
  obtain ⟨g4, g5⟩ := feedP_ok hT.1 g1 b
  have c4 := fnEnd hT g4 (by omega) (by omega)
  have c5 := hT.2 begin0 (xorL q 92) begin_ok (by decide) (by rw [l2]; decide)
  obtain ⟨g6, g7⟩ := feedP_ok hT.1 begin_ok (xorL q 92)
  have g8 : (feedP T begin0 (xorL q 92)).L = 64 := by rw [g7, l2]; rfl
  obtain ⟨I, hI⟩ : ∃ I, endP T (feedP T (feedP T begin0 (xorL q 54)) b) = I := ⟨_, rfl⟩
  have hIl : I.length = 32 := by rw [← hI]; exact endP_len _
  rw [hI] at c4
  have c6 := hT.2 (feedP T begin0 (xorL q 92)) I g6 (by omega) (by omega)
  obtain ⟨g9, g10⟩ := feedP_ok hT.1 g6 I
  have c7 := fnEnd hT g9 (by omega) (by omega)
  obtain ⟨R, hR⟩ : ∃ R, endP T (feedP T (feedP T begin0 (xorL q 92)) I) = R := ⟨_, rfl⟩
  have hRl : R.length = 32 := by rw [← hR]; exact endP_len _
  rw [hR] at c7
  have hm : macP T q b = R := by unfold macP; rw [hI, hR]
  rw [hm]
  clear hI hR hm
  repeat (first | refine Run.seq ?_ | refine Run.skip ?_ | refine Run.block ?_)
  refine Run.draw mixed rfl ?_
  refine D.callE c1 rfl (by first | rfl | simp [closed, men3, mens2_app, mens2_ints, mens2, men2, men1, mens1_app, mens1_ints, mens1]) (by first | rfl | simp [d2, ds1_ints, ds1_app, ds1, d1, ds0_app, ds0_ints, ds0, d0]) rfl ?_
  first | refine D.sliceE hE T65 rfl T5 rfl (by first | assumption | simp [*]) rfl rfl ?_ | refine D.sliceW hE T65 rfl T5 rfl rfl rfl ?_
  refine D.callE c2 rfl (by first | rfl | simp [closed, men3, mens2_app, mens2_ints, mens2, men2, men1, mens1_app, mens1_ints, mens1]) (by first | rfl | simp [d2, ds1_ints, ds1_app, ds1, d1, ds0_app, ds0_ints, ds0, d0]) rfl ?_
  refine D.move rfl rfl ?_
  refine D.callE c3 rfl (by first | rfl | simp [closed, men3, mens2_app, mens2_ints, mens2, men2, men1, mens1_app, mens1_ints, mens1]) (by first | rfl | simp [d2, ds1_ints, ds1_app, ds1, d1, ds0_app, ds0_ints, ds0, d0]) rfl ?_
  refine D.callE c4 rfl (by first | rfl | simp [closed, men3, mens2_app, mens2_ints, mens2, men2, men1, mens1_app, mens1_ints, mens1]) (by first | rfl | simp [d2, ds1_ints, ds1_app, ds1, d1, ds0_app, ds0_ints, ds0, d0]) rfl ?_
  first | refine D.allocS hE 10 T55 ints_zero rfl rfl ?_ | refine D.alloc hE 10 T55 rfl rfl rfl ?_
  first | refine D.storeS hE T55 rfl rfl (by first | rfl | exact cells_ones (by simp [ones_app, ones_ints, ones, AV.one, PV.one])) rfl (by first | rfl | simp [ints_len, *]) (by simp [ints_len, *] <;> omega) (by first | exact setAt_ints (by first | omega | (simp only [List.length_set]; omega)) | exact setAt_all _ _ (by simp [ints_len, *])) ?_ | refine D.store hE T55 rfl rfl rfl rfl rfl rfl ?_
  refine Dr.nil ?_
  refine ⟨rfl, ?_⟩
  try refine Run.keep [0, 1, 4, 5, 6, 7, 8, 9, 10, 13, 22, 23] rfl rfl ?_
  refine Run.freezeI (tm' := [(4, .ptr 4 0), (8, .eptr ((xorL q 92).map (PV.int .u8))), (10, .eptr (I.map (PV.int .u8)))]) (bx' := [(4, .var (ints .u8 (List.replicate 32 0)))]) 10 rfl (by repeat (first | exact TmFz.nil | refine TmFz.keep rfl ?_ | refine TmFz.fz rfl rfl ?_)) (by repeat (first | exact BxIn.nil | refine BxIn.cons rfl ?_)) rfl (by first | rfl | simp [mtm, men3, mens2_app, mens2_ints, mens2, men2, men1, has, look]) (by first | rfl | simp [mbx, menB, mens2_app, mens2_ints, mens2, men2, men1]) ?_
  repeat (first | refine Run.seq ?_ | refine Run.skip ?_ | refine Run.block ?_)
  refine Run.draw mixed rfl ?_
  refine D.callE c1 rfl (by first | rfl | simp [closed, men3, mens2_app, mens2_ints, mens2, men2, men1, mens1_app, mens1_ints, mens1]) (by first | rfl | simp [d2, ds1_ints, ds1_app, ds1, d1, ds0_app, ds0_ints, ds0, d0]) rfl ?_
  first | refine D.sliceE hE T65 rfl T5 rfl (by first | assumption | simp [*]) rfl rfl ?_ | refine D.sliceW hE T65 rfl T5 rfl rfl rfl ?_
  refine D.callE c5 rfl (by first | rfl | simp [closed, men3, mens2_app, mens2_ints, mens2, men2, men1, mens1_app, mens1_ints, mens1]) (by first | rfl | simp [d2, ds1_ints, ds1_app, ds1, d1, ds0_app, ds0_ints, ds0, d0]) rfl ?_
  first | refine D.sliceE hE T55 rfl T5 rfl (by first | assumption | simp [*]) rfl rfl ?_ | refine D.sliceW hE T55 rfl T5 rfl rfl rfl ?_
  refine D.callE c6 rfl (by first | rfl | simp [closed, men3, mens2_app, mens2_ints, mens2, men2, men1, mens1_app, mens1_ints, mens1]) (by first | rfl | simp [d2, ds1_ints, ds1_app, ds1, d1, ds0_app, ds0_ints, ds0, d0]) rfl ?_
  refine D.callE c7 rfl (by first | rfl | simp [closed, men3, mens2_app, mens2_ints, mens2, men2, men1, mens1_app, mens1_ints, mens1]) (by first | rfl | simp [d2, ds1_ints, ds1_app, ds1, d1, ds0_app, ds0_ints, ds0, d0]) rfl ?_
  first | refine D.storeS hE T55 rfl rfl (by first | rfl | exact cells_ones (by simp [ones_app, ones_ints, ones, AV.one, PV.one])) rfl (by first | rfl | simp [ints_len, *]) (by simp [ints_len, *] <;> omega) (by first | exact setAt_ints (by first | omega | (simp only [List.length_set]; omega)) | exact setAt_all _ _ (by simp [ints_len, *])) ?_ | refine D.store hE T55 rfl rfl rfl rfl rfl rfl ?_
  refine Dr.nil ?_
  refine ⟨rfl, ?_⟩
  try refine Run.keep [0, 1, 4, 5, 6, 7, 8, 9, 10, 13, 22, 23] rfl rfl ?_
  refine Run.ret ?_
  exact Ends.ex hE (.inr rfl) (ys := [.agg (ints .u8 R)]) (.cell rfl rfl T55 rfl (by simp [ints_len, hRl]) .nil) rfl (mens2_ints _)
end Go.Proofs.YthpenjbpaegpgaaDoor.Vm
