/- Tapes: a record is appended, by so many deeds. Conditions: none. -/
import Derived.Test.YtalcpfpjkfpmbaaTapeG
namespace Go.Proofs.Ytalcpfpjkfpmbaa.Vm
open Go Go.RowKit
set_option linter.unusedVariables false
set_option linter.unusedSimpArgs false
attribute [local irreducible] Ops Dr Run
variable {g : Nat → Option (List PV)}
set_option maxHeartbeats 4000000 in
theorem fnAppend {Ls : List (List Int)} {rs : List (List Int)} (h : TG Ls (frms rs)) (hr : ∀ r ∈ rs, rOk r) {r : List Int} (hrk : rOk r) (hf : (frms rs).length + (6 + r.length) ≤ (Ls.length - 1) * 32) (a : Int) (ha : -1 ≤ a ∧ a ≤ 1000000) :
    FnC (En Try.prog g) 8 [dskA Ls [], .pv (byP r), .pv (.int .i64 a)] (.tup [dskA (apR Ls (frms rs).length (frms rs ++ (hdr r ++ r)) a).1 (apR Ls (frms rs).length (frms rs ++ (hdr r ++ r)) a).2.1, .pv (.bool (apR Ls (frms rs).length (frms rs ++ (hdr r ++ r)) a).2.2), .pv (.int .i64 0)]) [] := by
  have hE := EnOk g
  have c1 := fnOpen (g := g) h hr
  have c8 := fnGood (g := g) h
  obtain ⟨⟨r1, r2⟩, r3⟩ := hrk
  have cf := fnFramed (g := g) r3 (by omega)
  have hl6 := hdr_len r
  have hrm : (((r.map (PV.int .u8)).length : Nat) : Int) = r.length := by simp
  have hdok := h.dok
  have h400 := h.l4
  have h001 := h.l1
  have hlsm : (((Ls.map secE).length : Nat) : Int) = Ls.length := by simp
  generalize frms rs = bs at *
  have hal : (bs ++ (hdr r ++ r)).length = bs.length + (6 + r.length) := by simp [hl6]
  generalize hdr r ++ r = R at *
  generalize hall : bs ++ R = all at *
  have hRl : R.length = 6 + r.length := by
    have := congrArg List.length hall
    rw [List.length_append] at this
    omega
  have hbm : (((bs.map (PV.int .u8)).length : Nat) : Int) = bs.length := by simp
  have ham : (((all.map (PV.int .u8)).length : Nat) : Int) = all.length := by simp
  have hdk := wsq_dok hdok (all := all) (by omega) (old := bs.length) (by omega) (by omega)
  obtain ⟨i0, hi0⟩ : ∃ i0, bs.length / 32 = i0 := ⟨_, rfl⟩
  obtain ⟨m, hm⟩ : ∃ m, nW bs.length all.length = m := ⟨_, rfl⟩
  have hap : apR Ls bs.length all a = apR Ls bs.length all a := rfl
  conv at hap => rhs; unfold apR
  rw [hm, hi0] at hap
  rw [hm, hi0] at hdk
  have hm2 : i0 + m = (all.length + 31) / 32 := by unfold nW at hm; omega
  have hm3 : m ≤ 12 := by omega
  have hwl := wsq_len all i0
  generalize apR Ls bs.length all a = Z at *
  refine FnC.of Try.func8 rfl rfl rfl rfl ?_
  repeat (first | refine Run.seq ?_ | refine Run.skip ?_ | refine Run.block ?_)
  refine Run.region ?_
  refine O.box 3 rfl (by first | rfl | exact cells_ones (by simp [ones_app, ones_ints, ones, AV.one, PV.one])) rfl rfl ?_
  refine O.alloc hE 6 T26 rfl rfl rfl ?_
  refine O.assign rfl rfl ?_
  refine O.assign rfl rfl ?_
  refine O.nil ?_
  try refine Run.keep [0, 1, 2, 3, 6, 7, 8, 10, 11, 12, 13, 14, 15, 16, 17, 24, 34, 39, 47, 63, 80, 97] rfl rfl ?_
  repeat (first | refine Run.seq ?_ | refine Run.skip ?_ | refine Run.block ?_)
  refine Run.region ?_
  refine O.load hE T26 rfl rfl rfl rfl ?_
  refine O.call (bs' := []) 100 c1 (.cons (AVle.of_eq rfl) .nil) rfl rfl rfl rfl rfl rfl rfl ?_
  refine O.move rfl rfl ?_
  refine O.extract rfl rfl rfl ?_
  refine O.extract rfl rfl rfl ?_
  refine O.assign rfl rfl ?_
  refine O.assign rfl rfl ?_
  refine O.nil ?_
  try refine Run.keep [0, 1, 2, 3, 6, 7, 8, 10, 11, 12, 13, 14, 15, 16, 17, 24, 34, 39, 47, 63, 80, 97] rfl rfl ?_
  repeat (first | refine Run.seq ?_ | refine Run.skip ?_ | refine Run.block ?_)
  refine Run.region ?_
  refine O.move rfl rfl ?_
  first | refine O.cmp rfl rfl rfl (by first | exact decide_eq_true (by omega) | exact decide_eq_false (by omega)) rfl ?_ | refine O.cmp rfl rfl rfl rfl rfl ?_
  refine O.nil ?_
  try refine Run.keep [0, 1, 2, 3, 6, 7, 8, 10, 11, 12, 13, 14, 15, 16, 17, 24, 34, 39, 47, 63, 80, 97] rfl rfl ?_
  repeat (first | refine Run.seq ?_ | refine Run.skip ?_)
  first | refine Run.condT rfl rfl ?_ | refine Run.condF rfl rfl ?_ | refine Run.condT rfl (by assumption) ?_ | refine Run.condF rfl (by assumption) ?_
  repeat (first | refine Run.seq ?_ | refine Run.skip ?_ | refine Run.block ?_)
  refine Run.region ?_
  refine O.move rfl rfl ?_
  refine O.lenN hE T32 rfl rfl rfl newest_pv hrm rfl ?_
  first | refine O.cmp rfl rfl rfl (by first | exact decide_eq_true (by omega) | exact decide_eq_false (by omega)) rfl ?_ | refine O.cmp rfl rfl rfl rfl rfl ?_
  refine O.move rfl rfl ?_
  first | (refine O.yes rfl rfl (by first | rfl | assumption) ?_; refine O.move rfl rfl ?_) | refine O.no rfl rfl rfl rfl ?_
  first | (refine O.yes rfl rfl (by first | rfl | assumption) ?_; refine O.lenN hE T32 rfl rfl rfl newest_pv hrm rfl ?_) | refine O.no rfl rfl rfl rfl ?_
  first | (refine O.yes rfl rfl (by first | rfl | assumption) ?_; first | refine O.cmp rfl rfl rfl (by first | exact decide_eq_true (by omega) | exact decide_eq_false (by omega)) rfl ?_ | refine O.cmp rfl rfl rfl rfl rfl ?_) | refine O.no rfl rfl rfl rfl ?_
  refine O.pick rfl rfl rfl rfl rfl ?_
  refine O.nil ?_
  try refine Run.keep [0, 1, 2, 3, 6, 7, 8, 10, 11, 12, 13, 14, 15, 16, 17, 24, 34, 39, 47, 63, 80, 97] rfl rfl ?_
  repeat (first | refine Run.seq ?_ | refine Run.skip ?_)
  first | refine Run.condT rfl rfl ?_ | refine Run.condF rfl rfl ?_ | refine Run.condT rfl (by assumption) ?_ | refine Run.condF rfl (by assumption) ?_
  repeat (first | refine Run.seq ?_ | refine Run.skip ?_ | refine Run.block ?_)
  refine Run.region ?_
  refine O.field hE L26 rfl rfl rfl rfl ?_
  first | refine O.loadS hE T24 rfl rfl rfl (by rfl) rfl ?_ | refine O.loadE hE T24 rfl rfl (by rfl) rfl ?_ | refine O.load hE T24 rfl rfl rfl rfl ?_
  first | refine O.lenN hE T24 rfl rfl rfl (by first | exact newest_pv | exact newest_gl rfl rfl | trivial) lenC rfl ?_ | refine O.lenLst hE T24 rfl rfl rfl (by first | exact newest_pv | exact newest_gl rfl rfl | trivial) rfl ?_
  first | refine O.cmp rfl rfl rfl (by first | exact decide_eq_true (by omega) | exact decide_eq_false (by omega)) rfl ?_ | refine O.cmp rfl rfl rfl rfl rfl ?_
  refine O.nil ?_
  try refine Run.keep [0, 1, 2, 3, 6, 7, 8, 10, 11, 12, 13, 14, 15, 16, 17, 24, 34, 39, 47, 63, 80, 97] rfl rfl ?_
  repeat (first | refine Run.seq ?_ | refine Run.skip ?_)
  first | refine Run.condT rfl rfl ?_ | refine Run.condF rfl rfl ?_ | refine Run.condT rfl (by assumption) ?_ | refine Run.condF rfl (by assumption) ?_
  repeat (first | refine Run.seq ?_ | refine Run.skip ?_ | refine Run.block ?_)
  refine Run.region ?_
  refine O.load hE T26 rfl rfl rfl rfl ?_
  refine O.callE c8 rfl (by first | rfl | simp [closed, men3, mens2_app, mens2_ints, mens2, men2, men1, mens1_app, mens1_ints, mens1]) (by first | rfl | simp [d2, ds1_ints, ds1_app, ds1, d1, ds0_app, ds0_ints, ds0, d0]) rfl ?_
  refine O.move rfl rfl ?_
  refine O.extract rfl rfl rfl ?_
  refine O.extract rfl rfl rfl ?_
  refine O.assign rfl rfl ?_
  refine O.assign rfl rfl ?_
  refine O.nil ?_
  try refine Run.keep [0, 1, 2, 3, 6, 7, 8, 10, 11, 12, 13, 14, 15, 16, 17, 24, 34, 39, 47, 63, 80, 97] rfl rfl ?_
  repeat (first | refine Run.seq ?_ | refine Run.skip ?_ | refine Run.block ?_)
  refine Run.region ?_
  refine O.move rfl rfl ?_
  first | refine O.cmp rfl rfl rfl (by first | exact decide_eq_true (by omega) | exact decide_eq_false (by omega)) rfl ?_ | refine O.cmp rfl rfl rfl rfl rfl ?_
  refine O.nil ?_
  try refine Run.keep [0, 1, 2, 3, 6, 7, 8, 10, 11, 12, 13, 14, 15, 16, 17, 24, 34, 39, 47, 63, 80, 97] rfl rfl ?_
  repeat (first | refine Run.seq ?_ | refine Run.skip ?_)
  first | refine Run.condT rfl rfl ?_ | refine Run.condF rfl rfl ?_ | refine Run.condT rfl (by assumption) ?_ | refine Run.condF rfl (by assumption) ?_
  repeat (first | refine Run.seq ?_ | refine Run.skip ?_ | refine Run.block ?_)
  refine Run.region ?_
  refine O.lit hE 50 T32 rfl T5 rfl rfl (xs := []) rfl rfl rfl rfl rfl rfl ?_
  refine O.move rfl rfl ?_
  refine O.appI (q := []) (r := bs) hE T32 rfl T5 rfl rfl rfl rfl rfl newest_pv rfl rfl rfl rfl (by simp; omega) (by simp [maxLen]; omega) rfl ?_
  refine O.move rfl rfl ?_
  refine O.call (bs' := []) 100 cf (.cons (AVle.of_eq rfl) .nil) rfl rfl rfl rfl rfl rfl rfl ?_
  refine O.appI (q := bs) (r := R) hE T32 rfl T5 rfl rfl rfl rfl rfl (newest_gl rfl (by simp)) rfl rfl rfl rfl (by simp; omega) (by unfold maxLen; omega) rfl ?_
  refine O.assign rfl rfl ?_
  refine O.nil ?_
  try refine Run.keep [0, 1, 2, 3, 6, 7, 8, 10, 11, 12, 13, 14, 15, 16, 17, 24, 34, 39, 47, 63, 80, 97] rfl rfl ?_
  refine Run.pre (s1 := ⟨128, [(2, .pv (.int .i64 a)), (3, .ptr 3 0), (6, .ptr 6 0), (11, .pv (byP bs)), (13, .pv (byP all))], [(3, .var [.pv (.lst 32 (Ls.map secE)), .pv (.lst 33 ([].map putE))]), (6, .var [.pv .nil, .pv .nil])]⟩) ?_ ?_
  ·
    refine SLe.by rfl ?_ ?_ rfl rfl
    · refine TmLe.cons (AVle.of_eq rfl) (TmLe.cons (AVle.of_eq rfl) (TmLe.cons (AVle.of_eq rfl) (TmLe.cons (AVle.of_eq rfl) (TmLe.cons (AVle.lst _ _ _ (lstOf_glV (e := 5) ?_ ?_)) .nil))))
      · rw [← hall]; rfl
      · rw [List.length_map, ← hall]
    · exact BxsLe.cons rfl (.refl _) (BxsLe.cons rfl (.refl _) .nil)
  repeat (first | refine Run.seq ?_ | refine Run.skip ?_ | refine Run.block ?_)
  refine Run.region ?_
  refine O.move rfl rfl ?_
  refine O.lenN hE T32 rfl rfl rfl newest_pv ham rfl ?_
  refine O.field hE L26 rfl rfl rfl rfl ?_
  first | refine O.loadS hE T23 rfl rfl rfl (by rfl) rfl ?_ | refine O.loadE hE T23 rfl rfl (by rfl) rfl ?_ | refine O.load hE T23 rfl rfl rfl rfl ?_
  refine O.lenN hE T23 rfl rfl rfl newest_pv hlsm rfl ?_
  first | refine O.ar rfl rfl rfl (by exact wrap_i64 (by omega) (by omega)) rfl ?_ | refine O.ar rfl rfl rfl rfl rfl ?_
  first | refine O.ar rfl rfl rfl (by exact wrap_i64 (by omega) (by omega)) rfl ?_ | refine O.ar rfl rfl rfl rfl rfl ?_
  first | refine O.cmp rfl rfl rfl (by first | exact decide_eq_true (by omega) | exact decide_eq_false (by omega)) rfl ?_ | refine O.cmp rfl rfl rfl rfl rfl ?_
  refine O.nil ?_
  try refine Run.keep [0, 1, 2, 3, 6, 7, 8, 10, 11, 12, 13, 14, 15, 16, 17, 24, 34, 39, 47, 63, 80, 97] rfl rfl ?_
  repeat (first | refine Run.seq ?_ | refine Run.skip ?_)
  first | refine Run.condT rfl rfl ?_ | refine Run.condF rfl rfl ?_ | refine Run.condT rfl (by assumption) ?_ | refine Run.condF rfl (by assumption) ?_
  repeat (first | refine Run.seq ?_ | refine Run.skip ?_ | refine Run.block ?_)
  refine Run.region ?_
  refine O.lit hE 65 T23 rfl T64 rfl rfl (xs := []) rfl rfl rfl rfl rfl rfl ?_
  refine O.field hE L26 rfl rfl rfl rfl ?_
  first | refine O.loadS hE T23 rfl rfl rfl (by rfl) rfl ?_ | refine O.loadE hE T23 rfl rfl (by rfl) rfl ?_ | refine O.load hE T23 rfl rfl rfl rfl ?_
  refine O.appM secE (q := []) (r := Ls) hE T23 rfl T64 rfl rfl rfl rfl rfl newest_pv rfl rfl rfl rfl (by simp; omega) (by simp [maxLen]; omega) rfl ?_
  refine O.build hE T26 L26 rfl rfl rfl ?_
  refine O.move rfl rfl ?_
  refine O.build hE T49 L49 rfl rfl rfl ?_
  refine O.box 200 rfl rfl rfl rfl ?_
  refine O.assign rfl rfl ?_
  refine O.nil ?_
  try refine Run.keep [0, 1, 2, 3, 6, 7, 8, 10, 11, 12, 13, 14, 15, 16, 17, 24, 34, 39, 47, 63, 80, 97] rfl rfl ?_
  refine Run.pre (s1 := ⟨128, [(6, .ptr 6 0), (11, .pv (byP bs)), (13, .pv (byP all)), (14, .ptr 200 0)], [(200, dV Ls (wsq all i0 0) (a - ((0 : Nat) : Int))), (6, .var [.pv .nil, .pv .nil])]⟩) ?_ ?_
  ·
    rw [show a - ((0 : Nat) : Int) = a by omega]
    refine SLe.by rfl ?_ ?_ rfl rfl
    · refine TmLe.cons (AVle.of_eq rfl) (TmLe.cons (AVle.of_eq rfl) (TmLe.cons (AVle.of_eq rfl) (TmLe.cons (AVle.of_eq rfl) .nil)))
    · exact BxsLe.cons rfl (.var (.cons (AVle.lst _ _ _ (lstOf_glV rfl (by simp))) (.cons (AVle.nil 33) (.cons (AVle.of_eq rfl) .nil)))) (BxsLe.cons rfl (.refl _) .nil)
  have hq0 : IntKind.i64.wrap ((bs.length : Int) / 32) = ((i0 + 0 : Nat) : Int) := by rw [wrap_i64 (by omega) (by omega)]; omega
  repeat (first | refine Run.seq ?_ | refine Run.skip ?_ | refine Run.block ?_)
  refine Run.region ?_
  refine O.move rfl rfl ?_
  refine O.lenN hE T32 rfl rfl rfl newest_pv hbm rfl ?_
  refine O.quoE (q := ((i0 + 0 : Nat) : Int)) rfl rfl (by omega) (by omega) hq0 rfl ?_
  refine O.assign rfl rfl ?_
  refine O.nil ?_
  try refine Run.keep [0, 1, 2, 3, 6, 7, 8, 10, 11, 12, 13, 14, 15, 16, 17, 24, 34, 39, 47, 63, 80, 97] rfl rfl ?_
  repeat (first | refine Run.seq ?_ | refine Run.skip ?_)
  refine Run.block ?_
  refine Run.loopInv (ι := Nat) (fun j => j ≤ m ∧ (a < 0 ∨ (j : Int) ≤ a)) (fun j => ⟨128, [(6, .ptr 6 0), (13, .pv (byP all)), (14, .ptr 200 0), (15, .pv (.int .i64 ((i0 + j : Nat) : Int)))], [(200, dV Ls (wsq all i0 j) (a - (j : Int))), (6, .var [.pv .nil, .pv .nil])]⟩) (fun j => m - j) 0 ⟨Nat.zero_le _, by omega⟩ ?_ ?_
  ·
    exact SLe.drop (by repeat (first | exact TmIn.nil | refine TmIn.cons rfl ?_)) (by repeat (first | exact BxIn.nil | refine BxIn.cons rfl ?_)) rfl rfl
  rintro j ⟨hj, hja⟩ ih
  have hdj := hdk j hj
  have hwlj := hwl j
  have hq1 : IntKind.i64.wrap (((i0 + j : Nat) : Int) * 32) = (((i0 + j) * 32 : Nat) : Int) := by rw [wrap_i64 (by omega) (by omega)]; omega
  by_cases hlt : j < m
  ·
    have hq2 : IntKind.i64.wrap (1 + ((i0 + j : Nat) : Int)) = ((1 + (i0 + j) : Nat) : Int) := by rw [wrap_i64 (by omega) (by omega)]; omega
    have hq3 : IntKind.i64.wrap (((i0 + j : Nat) : Int) + 1) = ((i0 + (j + 1) : Nat) : Int) := by rw [wrap_i64 (by omega) (by omega)]; omega
    have hq4 : IntKind.i64.wrap (((i0 + (j + 1) : Nat) : Int) * 32) = (((i0 + j + 1) * 32 : Nat) : Int) := by rw [wrap_i64 (by omega) (by omega)]; omega
    have hq5 : (if ((((i0 + j + 1) * 32 : Nat) : Int)) < (all.length : Int) then ((((i0 + j + 1) * 32 : Nat) : Int)) else (all.length : Int)) = ((min all.length ((i0 + j + 1) * 32) : Nat) : Int) := by split <;> omega
    have hys : (((all.map (PV.int .u8)).take ((min all.length ((i0 + j + 1) * 32) : Nat) : Int).toNat).drop (((i0 + j) * 32 : Nat) : Int).toNat) = ((all.take (min all.length ((i0 + j + 1) * 32))).drop ((i0 + j) * 32)).map (PV.int .u8) := by
      rw [Int.toNat_natCast, Int.toNat_natCast, List.map_drop, List.map_take]
    have hsrc := part_src all (i0 + j)
    have hst : wsq all i0 (j + 1) = wsq all i0 j ++ [⟨((1 + (i0 + j) : Nat) : Int), padS ((all.take (min all.length ((i0 + j + 1) * 32))).drop ((i0 + j) * 32))⟩] := rfl
    have hmn : min all.length ((i0 + j + 1) * 32) ≤ all.length ∧ (i0 + j) * 32 ≤ min all.length ((i0 + j + 1) * 32) := by omega
    have hwi : 1 + (i0 + j) < Ls.length := by omega
    have h60 : (wsq all i0 j).length < 60 := by omega
    by_cases hz : a = (j : Int)
    ·
      have hZ : Z = (Ls, wsq all i0 j, false) := by
        rw [hap, if_pos (by omega), hz, Int.toNat_natCast]
      rw [hZ]
      dsimp only
      have cw := fnWrite0 (g := g) (Ls := Ls) (Ws := wsq all i0 j) (i := 1 + (i0 + j)) hsrc
      rw [show a - (j : Int) = 0 by omega]
      clear hap hst hdk ih
      generalize (all.take (min all.length ((i0 + j + 1) * 32))).drop ((i0 + j) * 32) = B at *
      generalize wsq all i0 j = W at *
      generalize min all.length ((i0 + j + 1) * 32) = M at *
      repeat (first | refine Run.seq ?_ | refine Run.skip ?_ | refine Run.block ?_)
      refine Run.region ?_
      refine O.move rfl rfl ?_
      refine O.ar (q := (((i0 + j) * 32 : Nat) : Int)) rfl rfl rfl hq1 rfl ?_
      refine O.move rfl rfl ?_
      refine O.lenN hE T32 rfl rfl rfl newest_pv ham rfl ?_
      first | refine O.cmp rfl rfl rfl (by first | exact decide_eq_true (by omega) | exact decide_eq_false (by omega)) rfl ?_ | refine O.cmp rfl rfl rfl rfl rfl ?_
      refine O.nil ?_
      try refine Run.keep [0, 1, 2, 3, 6, 7, 8, 10, 11, 12, 13, 14, 15, 16, 17, 24, 34, 39, 47, 63, 80, 97] rfl rfl ?_
      repeat (first | refine Run.seq ?_ | refine Run.skip ?_)
      first | refine Run.condT rfl rfl ?_ | refine Run.condF rfl rfl ?_ | refine Run.condT rfl (by assumption) ?_ | refine Run.condF rfl (by assumption) ?_
      repeat (first | refine Run.seq ?_ | refine Run.skip ?_ | refine Run.block ?_)
      refine Run.region ?_
      refine O.move rfl rfl ?_
      refine O.move rfl rfl ?_
      refine O.ar (q := ((1 + (i0 + j) : Nat) : Int)) rfl rfl rfl hq2 rfl ?_
      refine O.move rfl rfl ?_
      refine O.move rfl rfl ?_
      refine O.ar (q := (((i0 + j) * 32 : Nat) : Int)) rfl rfl rfl hq1 rfl ?_
      refine O.move rfl rfl ?_
      refine O.lenN hE T32 rfl rfl rfl newest_pv ham rfl ?_
      refine O.move rfl rfl ?_
      refine O.ar (q := ((i0 + (j + 1) : Nat) : Int)) rfl rfl rfl hq3 rfl ?_
      refine O.ar (q := (((i0 + j + 1) * 32 : Nat) : Int)) rfl rfl rfl hq4 rfl ?_
      refine O.minI rfl rfl hq5 rfl ?_
      refine O.slice hE T32 rfl T5 rfl rfl newest_pv rfl rfl rfl (by omega) (by omega) (by simp only [List.length_map]; omega) hys rfl ?_
      refine O.lend (bx' := [(6, .var [.pv .nil, .pv .nil])]) (ln := [200]) cw rfl rfl rfl (.inr (men_args3 rfl rfl rfl)) (by repeat (first | exact BxIn.nil | refine BxIn.cons rfl ?_)) rfl rfl rfl rfl rfl rfl rfl rfl rfl rfl ?_
      refine O.un rfl rfl rfl rfl rfl ?_
      refine O.nil ?_
      try refine Run.keep [0, 1, 2, 3, 6, 7, 8, 10, 11, 12, 13, 14, 15, 16, 17, 24, 34, 39, 47, 63, 80, 97] rfl rfl ?_
      repeat (first | refine Run.seq ?_ | refine Run.skip ?_)
      first | refine Run.condT rfl rfl ?_ | refine Run.condF rfl rfl ?_ | refine Run.condT rfl (by assumption) ?_ | refine Run.condF rfl (by assumption) ?_
      repeat (first | refine Run.seq ?_ | refine Run.skip ?_ | refine Run.block ?_)
      refine Run.region ?_
      refine O.move rfl rfl ?_
      refine O.nilCheck rfl rfl ?_
      refine O.field hE L49 rfl rfl rfl rfl ?_
      refine O.load hE T26 rfl rfl rfl rfl ?_
      refine O.store hE T26 rfl rfl rfl rfl rfl rfl ?_
      refine O.assign rfl rfl ?_
      refine O.assign rfl rfl ?_
      refine O.nil ?_
      try refine Run.keep [0, 1, 2, 3, 6, 7, 8, 10, 11, 12, 13, 14, 15, 16, 17, 24, 34, 39, 47, 63, 80, 97] rfl rfl ?_
      refine Run.ret ?_
      exact Ends.of hE (.inr rfl) rfl rfl (SLe.drop (by repeat (first | exact TmIn.nil | refine TmIn.cons rfl ?_)) (by repeat (first | exact BxIn.nil | refine BxIn.cons rfl ?_)) rfl rfl)
    ·
      have cw := fnWrite (g := g) hdj h60 hwi hsrc (k := a - (j : Int)) (by omega) (by omega)
      rw [← hst] at cw
      clear hst
      rw [show a - (j : Int) - 1 = a - ((j + 1 : Nat) : Int) by omega] at cw
      clear hap hdk
      generalize (all.take (min all.length ((i0 + j + 1) * 32))).drop ((i0 + j) * 32) = B at *
      generalize min all.length ((i0 + j + 1) * 32) = M at *
      repeat (first | refine Run.seq ?_ | refine Run.skip ?_ | refine Run.block ?_)
      refine Run.region ?_
      refine O.move rfl rfl ?_
      refine O.ar (q := (((i0 + j) * 32 : Nat) : Int)) rfl rfl rfl hq1 rfl ?_
      refine O.move rfl rfl ?_
      refine O.lenN hE T32 rfl rfl rfl newest_pv ham rfl ?_
      first | refine O.cmp rfl rfl rfl (by first | exact decide_eq_true (by omega) | exact decide_eq_false (by omega)) rfl ?_ | refine O.cmp rfl rfl rfl rfl rfl ?_
      refine O.nil ?_
      try refine Run.keep [0, 1, 2, 3, 6, 7, 8, 10, 11, 12, 13, 14, 15, 16, 17, 24, 34, 39, 47, 63, 80, 97] rfl rfl ?_
      repeat (first | refine Run.seq ?_ | refine Run.skip ?_)
      first | refine Run.condT rfl rfl ?_ | refine Run.condF rfl rfl ?_ | refine Run.condT rfl (by assumption) ?_ | refine Run.condF rfl (by assumption) ?_
      repeat (first | refine Run.seq ?_ | refine Run.skip ?_ | refine Run.block ?_)
      refine Run.region ?_
      refine O.move rfl rfl ?_
      refine O.move rfl rfl ?_
      refine O.ar (q := ((1 + (i0 + j) : Nat) : Int)) rfl rfl rfl hq2 rfl ?_
      refine O.move rfl rfl ?_
      refine O.move rfl rfl ?_
      refine O.ar (q := (((i0 + j) * 32 : Nat) : Int)) rfl rfl rfl hq1 rfl ?_
      refine O.move rfl rfl ?_
      refine O.lenN hE T32 rfl rfl rfl newest_pv ham rfl ?_
      refine O.move rfl rfl ?_
      refine O.ar (q := ((i0 + (j + 1) : Nat) : Int)) rfl rfl rfl hq3 rfl ?_
      refine O.ar (q := (((i0 + j + 1) * 32 : Nat) : Int)) rfl rfl rfl hq4 rfl ?_
      refine O.minI rfl rfl hq5 rfl ?_
      refine O.slice hE T32 rfl T5 rfl rfl newest_pv rfl rfl rfl (by omega) (by omega) (by simp only [List.length_map]; omega) hys rfl ?_
      refine O.lend (bx' := [(6, .var [.pv .nil, .pv .nil])]) (ln := [200]) cw rfl rfl rfl (.inr (men_args3 rfl rfl rfl)) (by repeat (first | exact BxIn.nil | refine BxIn.cons rfl ?_)) rfl rfl rfl rfl rfl rfl rfl rfl rfl rfl ?_
      refine O.un rfl rfl rfl rfl rfl ?_
      refine O.nil ?_
      try refine Run.keep [0, 1, 2, 3, 6, 7, 8, 10, 11, 12, 13, 14, 15, 16, 17, 24, 34, 39, 47, 63, 80, 97] rfl rfl ?_
      repeat (first | refine Run.seq ?_ | refine Run.skip ?_)
      first | refine Run.condT rfl rfl ?_ | refine Run.condF rfl rfl ?_ | refine Run.condT rfl (by assumption) ?_ | refine Run.condF rfl (by assumption) ?_
      repeat (first | refine Run.seq ?_ | refine Run.skip ?_ | refine Run.block ?_)
      refine Run.region ?_
      refine O.move rfl rfl ?_
      refine O.ar (q := ((i0 + (j + 1) : Nat) : Int)) rfl rfl rfl hq3 rfl ?_
      refine O.assign rfl rfl ?_
      refine O.nil ?_
      try refine Run.keep [0, 1, 2, 3, 6, 7, 8, 10, 11, 12, 13, 14, 15, 16, 17, 24, 34, 39, 47, 63, 80, 97] rfl rfl ?_
      refine ih (j + 1) _ ?_ ⟨by omega, by omega⟩ (by omega)
      exact SLe.drop (by repeat (first | exact TmIn.nil | refine TmIn.cons rfl ?_)) (by repeat (first | exact BxIn.nil | refine BxIn.cons rfl ?_)) rfl rfl
  obtain rfl : j = m := by omega
  clear hdk ih
  repeat (first | refine Run.seq ?_ | refine Run.skip ?_ | refine Run.block ?_)
  refine Run.region ?_
  refine O.move rfl rfl ?_
  refine O.ar (q := (((i0 + j) * 32 : Nat) : Int)) rfl rfl rfl hq1 rfl ?_
  refine O.move rfl rfl ?_
  refine O.lenN hE T32 rfl rfl rfl newest_pv ham rfl ?_
  first | refine O.cmp rfl rfl rfl (by first | exact decide_eq_true (by omega) | exact decide_eq_false (by omega)) rfl ?_ | refine O.cmp rfl rfl rfl rfl rfl ?_
  refine O.nil ?_
  try refine Run.keep [0, 1, 2, 3, 6, 7, 8, 10, 11, 12, 13, 14, 15, 16, 17, 24, 34, 39, 47, 63, 80, 97] rfl rfl ?_
  repeat (first | refine Run.seq ?_ | refine Run.skip ?_)
  first | refine Run.condT rfl rfl ?_ | refine Run.condF rfl rfl ?_ | refine Run.condT rfl (by assumption) ?_ | refine Run.condF rfl (by assumption) ?_
  refine Run.exit ?_
  repeat (first | refine thenR_exit ?_ | refine roundR_exit ?_ | refine blockR_exit ?_ | refine blockR_pass rfl ?_)
  repeat (first | refine Run.seq ?_ | refine Run.skip ?_ | refine Run.block ?_)
  refine Run.region ?_
  refine O.move rfl rfl ?_
  refine O.lenN hE T32 rfl rfl rfl newest_pv ham rfl ?_
  refine O.assign rfl rfl ?_
  refine O.nil ?_
  try refine Run.keep [0, 1, 2, 3, 6, 7, 8, 10, 11, 12, 13, 14, 15, 16, 17, 24, 34, 39, 47, 63, 80, 97] rfl rfl ?_
  obtain ⟨W, hW⟩ : ∃ W, wsq all i0 j = W := ⟨_, rfl⟩
  rw [hW] at hap hdj hwlj ⊢
  by_cases hz0 : a = (j : Int)
  ·
    have hZ : Z = (Ls, W, false) := by
      rw [hap, if_pos (by omega), hz0, Int.toNat_natCast, hW]
    rw [hZ]
    dsimp only
    rw [show a - (j : Int) = 0 by omega]
    have d1 := fnDoS0 (g := g) (Ls := Ls) (Ws := W)
    clear hap
    repeat (first | refine Run.seq ?_ | refine Run.skip ?_ | refine Run.block ?_)
    refine Run.region ?_
    refine O.move rfl rfl ?_
    refine O.lend (bx' := [(6, .var [.pv .nil, .pv .nil])]) (ln := [200]) d1 rfl rfl rfl (.inr (men_args2 rfl rfl)) (by repeat (first | exact BxIn.nil | refine BxIn.cons rfl ?_)) rfl rfl rfl rfl rfl rfl rfl rfl rfl rfl ?_
    refine O.move rfl rfl ?_
    first | (refine O.yes rfl rfl (by first | rfl | assumption) ?_; refine O.move rfl rfl ?_) | refine O.no rfl rfl rfl rfl ?_
    first | (refine O.yes rfl rfl (by first | rfl | assumption) ?_; refine O.move rfl rfl ?_) | refine O.no rfl rfl rfl rfl ?_
    first | (refine O.yes rfl rfl (by first | rfl | assumption) ?_; refine O.shr rfl rfl (by first | omega | (exact wrap_nn rfl _)) rfl ?_) | refine O.no rfl rfl rfl rfl ?_
    first | (refine O.yes rfl rfl (by first | rfl | assumption) ?_; refine O.conv hE T3 T5 rfl rfl rfl ?_) | refine O.no rfl rfl rfl rfl ?_
    first | (refine O.yes rfl rfl (by first | rfl | assumption) ?_; refine O.move rfl rfl ?_) | refine O.no rfl rfl rfl rfl ?_
    first | (refine O.yes rfl rfl (by first | rfl | assumption) ?_; refine O.shr rfl rfl (by first | omega | (exact wrap_nn rfl _)) rfl ?_) | refine O.no rfl rfl rfl rfl ?_
    first | (refine O.yes rfl rfl (by first | rfl | assumption) ?_; refine O.conv hE T3 T5 rfl rfl rfl ?_) | refine O.no rfl rfl rfl rfl ?_
    first | (refine O.yes rfl rfl (by first | rfl | assumption) ?_; refine O.move rfl rfl ?_) | refine O.no rfl rfl rfl rfl ?_
    first | (refine O.yes rfl rfl (by first | rfl | assumption) ?_; refine O.conv hE T3 T5 rfl rfl rfl ?_) | refine O.no rfl rfl rfl rfl ?_
    first | (refine O.yes rfl rfl (by first | rfl | assumption) ?_; refine O.litV hE T32 rfl T5 rfl rfl rfl rfl rfl rfl rfl ?_) | refine O.no rfl rfl rfl rfl ?_
    first | (refine O.yes rfl rfl (by first | rfl | assumption) ?_; refine O.lend (bx' := [(6, .var [.pv .nil, .pv .nil])]) (ln := [200]) c1 rfl rfl rfl (.inr (men_args3 rfl rfl rfl)) (by repeat (first | exact BxIn.nil | refine BxIn.cons rfl ?_)) rfl rfl rfl rfl rfl rfl rfl rfl rfl rfl ?_) | refine O.no rfl rfl rfl rfl ?_
    refine O.pick rfl rfl rfl rfl rfl ?_
    refine O.move rfl rfl ?_
    first | (refine O.yes rfl rfl (by first | rfl | assumption) ?_; refine O.move rfl rfl ?_) | refine O.no rfl rfl rfl rfl ?_
    first | (refine O.yes rfl rfl (by first | rfl | assumption) ?_; refine O.lend (bx' := [(6, .var [.pv .nil, .pv .nil])]) (ln := [200]) c1 rfl rfl rfl (.inr (men_args2 rfl rfl)) (by repeat (first | exact BxIn.nil | refine BxIn.cons rfl ?_)) rfl rfl rfl rfl rfl rfl rfl rfl rfl rfl ?_) | refine O.no rfl rfl rfl rfl ?_
    refine O.pick rfl rfl rfl rfl rfl ?_
    refine O.assign rfl rfl ?_
    refine O.nil ?_
    try refine Run.keep [0, 1, 2, 3, 6, 7, 8, 10, 11, 12, 13, 14, 15, 16, 17, 24, 34, 39, 47, 63, 80, 97] rfl rfl ?_
    repeat (first | refine Run.seq ?_ | refine Run.skip ?_ | refine Run.block ?_)
    refine Run.region ?_
    refine O.move rfl rfl ?_
    refine O.nilCheck rfl rfl ?_
    refine O.field hE L49 rfl rfl rfl rfl ?_
    refine O.load hE T26 rfl rfl rfl rfl ?_
    refine O.move rfl rfl ?_
    refine O.store hE T26 rfl rfl rfl rfl rfl rfl ?_
    refine O.assign rfl rfl ?_
    refine O.assign rfl rfl ?_
    refine O.nil ?_
    try refine Run.keep [0, 1, 2, 3, 6, 7, 8, 10, 11, 12, 13, 14, 15, 16, 17, 24, 34, 39, 47, 63, 80, 97] rfl rfl ?_
    refine Run.ret ?_
    exact Ends.of hE (.inr rfl) rfl rfl (SLe.drop (by repeat (first | exact TmIn.nil | refine TmIn.cons rfl ?_)) (by repeat (first | exact BxIn.nil | refine BxIn.cons rfl ?_)) rfl rfl)
  have d1 := fnDoS (g := g) hdj (k := a - (j : Int)) (by omega) (by omega)
  have hXd : DOk (fl (fun _ => true) Ls W W.length) [] := hdj.synced _ _
  have hXl : (fl (fun _ => true) Ls W W.length).length = Ls.length := fl_len _ _
  generalize fl (fun _ => true) Ls W W.length = X at *
  have hb8 : (([0, 0, 0, 0, 0, (all.length : Int) / 65536 % 256, (all.length : Int) / 256 % 256, (all.length : Int) % 256] : List Int)).length ≤ 32 := by simp
  have hps : padS [0, 0, 0, 0, 0, (all.length : Int) / 65536 % 256, (all.length : Int) / 256 % 256, (all.length : Int) % 256] = hsec all.length := rfl
  by_cases hz1 : a = (j : Int) + 1
  ·
    have hZ : Z = (X, [], false) := by
      rw [hap, if_neg (by omega), if_pos hz1]
    rw [hZ]
    dsimp only
    rw [show a - (j : Int) - 1 = 0 by omega] at d1
    have d2 := fnWrite0 (g := g) (Ls := X) (Ws := []) (i := 0) hb8
    clear hap
    repeat (first | refine Run.seq ?_ | refine Run.skip ?_ | refine Run.block ?_)
    refine Run.region ?_
    refine O.move rfl rfl ?_
    refine O.lend (bx' := [(6, .var [.pv .nil, .pv .nil])]) (ln := [200]) d1 rfl rfl rfl (.inr (men_args2 rfl rfl)) (by repeat (first | exact BxIn.nil | refine BxIn.cons rfl ?_)) rfl rfl rfl rfl rfl rfl rfl rfl rfl rfl ?_
    refine O.move rfl rfl ?_
    first | (refine O.yes rfl rfl (by first | rfl | assumption) ?_; refine O.move rfl rfl ?_) | refine O.no rfl rfl rfl rfl ?_
    first | (refine O.yes rfl rfl (by first | rfl | assumption) ?_; refine O.move rfl rfl ?_) | refine O.no rfl rfl rfl rfl ?_
    first | (refine O.yes rfl rfl (by first | rfl | assumption) ?_; refine O.shrQ rfl rfl (by omega) (fdq (p := 65536) (by decide) (by omega)) rfl ?_) | refine O.no rfl rfl rfl rfl ?_
    first | (refine O.yes rfl rfl (by first | rfl | assumption) ?_; refine O.convQ hE T3 T5 rfl rfl w8 rfl ?_) | refine O.no rfl rfl rfl rfl ?_
    first | (refine O.yes rfl rfl (by first | rfl | assumption) ?_; refine O.move rfl rfl ?_) | refine O.no rfl rfl rfl rfl ?_
    first | (refine O.yes rfl rfl (by first | rfl | assumption) ?_; refine O.shrQ rfl rfl (by omega) (fdq (p := 256) (by decide) (by omega)) rfl ?_) | refine O.no rfl rfl rfl rfl ?_
    first | (refine O.yes rfl rfl (by first | rfl | assumption) ?_; refine O.convQ hE T3 T5 rfl rfl w8 rfl ?_) | refine O.no rfl rfl rfl rfl ?_
    first | (refine O.yes rfl rfl (by first | rfl | assumption) ?_; refine O.move rfl rfl ?_) | refine O.no rfl rfl rfl rfl ?_
    first | (refine O.yes rfl rfl (by first | rfl | assumption) ?_; refine O.convQ hE T3 T5 rfl rfl w8 rfl ?_) | refine O.no rfl rfl rfl rfl ?_
    first | (refine O.yes rfl rfl (by first | rfl | assumption) ?_; refine O.litV hE T32 rfl T5 rfl rfl rfl rfl rfl rfl rfl ?_) | refine O.no rfl rfl rfl rfl ?_
    first | (refine O.yes rfl rfl (by first | rfl | assumption) ?_; refine O.lend (bx' := [(6, .var [.pv .nil, .pv .nil])]) (ln := [200]) d2 rfl rfl rfl (.inr (men_args3 rfl rfl rfl)) (by repeat (first | exact BxIn.nil | refine BxIn.cons rfl ?_)) rfl rfl rfl rfl rfl rfl rfl rfl rfl rfl ?_) | refine O.no rfl rfl rfl rfl ?_
    refine O.pick rfl rfl rfl rfl rfl ?_
    refine O.move rfl rfl ?_
    first | (refine O.yes rfl rfl (by first | rfl | assumption) ?_; refine O.move rfl rfl ?_) | refine O.no rfl rfl rfl rfl ?_
    first | (refine O.yes rfl rfl (by first | rfl | assumption) ?_; refine O.lend (bx' := [(6, .var [.pv .nil, .pv .nil])]) (ln := [200]) c1 rfl rfl rfl (.inr (men_args2 rfl rfl)) (by repeat (first | exact BxIn.nil | refine BxIn.cons rfl ?_)) rfl rfl rfl rfl rfl rfl rfl rfl rfl rfl ?_) | refine O.no rfl rfl rfl rfl ?_
    refine O.pick rfl rfl rfl rfl rfl ?_
    refine O.assign rfl rfl ?_
    refine O.nil ?_
    try refine Run.keep [0, 1, 2, 3, 6, 7, 8, 10, 11, 12, 13, 14, 15, 16, 17, 24, 34, 39, 47, 63, 80, 97] rfl rfl ?_
    repeat (first | refine Run.seq ?_ | refine Run.skip ?_ | refine Run.block ?_)
    refine Run.region ?_
    refine O.move rfl rfl ?_
    refine O.nilCheck rfl rfl ?_
    refine O.field hE L49 rfl rfl rfl rfl ?_
    refine O.load hE T26 rfl rfl rfl rfl ?_
    refine O.move rfl rfl ?_
    refine O.store hE T26 rfl rfl rfl rfl rfl rfl ?_
    refine O.assign rfl rfl ?_
    refine O.assign rfl rfl ?_
    refine O.nil ?_
    try refine Run.keep [0, 1, 2, 3, 6, 7, 8, 10, 11, 12, 13, 14, 15, 16, 17, 24, 34, 39, 47, 63, 80, 97] rfl rfl ?_
    refine Run.ret ?_
    exact Ends.of hE (.inr rfl) rfl rfl (SLe.drop (by repeat (first | exact TmIn.nil | refine TmIn.cons rfl ?_)) (by repeat (first | exact BxIn.nil | refine BxIn.cons rfl ?_)) rfl rfl)
  have d2 := fnWrite (g := g) hXd (by simp) (i := 0) (by omega) hb8 (k := a - (j : Int) - 1) (by omega) (by omega)
  rw [hps] at d2
  by_cases hz2 : a = (j : Int) + 2
  ·
    have hZ : Z = (X, [⟨0, hsec all.length⟩], false) := by
      rw [hap, if_neg (by omega), if_neg (by omega), if_pos hz2]
    rw [hZ]
    dsimp only
    rw [show a - (j : Int) - 1 - 1 = 0 by omega] at d2
    have d3 := fnDoS0 (g := g) (Ls := X) (Ws := [⟨0, hsec all.length⟩])
    clear hap
    generalize hsec all.length = H at *
    repeat (first | refine Run.seq ?_ | refine Run.skip ?_ | refine Run.block ?_)
    refine Run.region ?_
    refine O.move rfl rfl ?_
    refine O.lend (bx' := [(6, .var [.pv .nil, .pv .nil])]) (ln := [200]) d1 rfl rfl rfl (.inr (men_args2 rfl rfl)) (by repeat (first | exact BxIn.nil | refine BxIn.cons rfl ?_)) rfl rfl rfl rfl rfl rfl rfl rfl rfl rfl ?_
    refine O.move rfl rfl ?_
    first | (refine O.yes rfl rfl (by first | rfl | assumption) ?_; refine O.move rfl rfl ?_) | refine O.no rfl rfl rfl rfl ?_
    first | (refine O.yes rfl rfl (by first | rfl | assumption) ?_; refine O.move rfl rfl ?_) | refine O.no rfl rfl rfl rfl ?_
    first | (refine O.yes rfl rfl (by first | rfl | assumption) ?_; refine O.shrQ rfl rfl (by omega) (fdq (p := 65536) (by decide) (by omega)) rfl ?_) | refine O.no rfl rfl rfl rfl ?_
    first | (refine O.yes rfl rfl (by first | rfl | assumption) ?_; refine O.convQ hE T3 T5 rfl rfl w8 rfl ?_) | refine O.no rfl rfl rfl rfl ?_
    first | (refine O.yes rfl rfl (by first | rfl | assumption) ?_; refine O.move rfl rfl ?_) | refine O.no rfl rfl rfl rfl ?_
    first | (refine O.yes rfl rfl (by first | rfl | assumption) ?_; refine O.shrQ rfl rfl (by omega) (fdq (p := 256) (by decide) (by omega)) rfl ?_) | refine O.no rfl rfl rfl rfl ?_
    first | (refine O.yes rfl rfl (by first | rfl | assumption) ?_; refine O.convQ hE T3 T5 rfl rfl w8 rfl ?_) | refine O.no rfl rfl rfl rfl ?_
    first | (refine O.yes rfl rfl (by first | rfl | assumption) ?_; refine O.move rfl rfl ?_) | refine O.no rfl rfl rfl rfl ?_
    first | (refine O.yes rfl rfl (by first | rfl | assumption) ?_; refine O.convQ hE T3 T5 rfl rfl w8 rfl ?_) | refine O.no rfl rfl rfl rfl ?_
    first | (refine O.yes rfl rfl (by first | rfl | assumption) ?_; refine O.litV hE T32 rfl T5 rfl rfl rfl rfl rfl rfl rfl ?_) | refine O.no rfl rfl rfl rfl ?_
    first | (refine O.yes rfl rfl (by first | rfl | assumption) ?_; refine O.lend (bx' := [(6, .var [.pv .nil, .pv .nil])]) (ln := [200]) d2 rfl rfl rfl (.inr (men_args3 rfl rfl rfl)) (by repeat (first | exact BxIn.nil | refine BxIn.cons rfl ?_)) rfl rfl rfl rfl rfl rfl rfl rfl rfl rfl ?_) | refine O.no rfl rfl rfl rfl ?_
    refine O.pick rfl rfl rfl rfl rfl ?_
    refine O.move rfl rfl ?_
    first | (refine O.yes rfl rfl (by first | rfl | assumption) ?_; refine O.move rfl rfl ?_) | refine O.no rfl rfl rfl rfl ?_
    first | (refine O.yes rfl rfl (by first | rfl | assumption) ?_; refine O.lend (bx' := [(6, .var [.pv .nil, .pv .nil])]) (ln := [200]) d3 rfl rfl rfl (.inr (men_args2 rfl rfl)) (by repeat (first | exact BxIn.nil | refine BxIn.cons rfl ?_)) rfl rfl rfl rfl rfl rfl rfl rfl rfl rfl ?_) | refine O.no rfl rfl rfl rfl ?_
    refine O.pick rfl rfl rfl rfl rfl ?_
    refine O.assign rfl rfl ?_
    refine O.nil ?_
    try refine Run.keep [0, 1, 2, 3, 6, 7, 8, 10, 11, 12, 13, 14, 15, 16, 17, 24, 34, 39, 47, 63, 80, 97] rfl rfl ?_
    repeat (first | refine Run.seq ?_ | refine Run.skip ?_ | refine Run.block ?_)
    refine Run.region ?_
    refine O.move rfl rfl ?_
    refine O.nilCheck rfl rfl ?_
    refine O.field hE L49 rfl rfl rfl rfl ?_
    refine O.load hE T26 rfl rfl rfl rfl ?_
    refine O.move rfl rfl ?_
    refine O.store hE T26 rfl rfl rfl rfl rfl rfl ?_
    refine O.assign rfl rfl ?_
    refine O.assign rfl rfl ?_
    refine O.nil ?_
    try refine Run.keep [0, 1, 2, 3, 6, 7, 8, 10, 11, 12, 13, 14, 15, 16, 17, 24, 34, 39, 47, 63, 80, 97] rfl rfl ?_
    refine Run.ret ?_
    exact Ends.of hE (.inr rfl) rfl rfl (SLe.drop (by repeat (first | exact TmIn.nil | refine TmIn.cons rfl ?_)) (by repeat (first | exact BxIn.nil | refine BxIn.cons rfl ?_)) rfl rfl)
  have hZ : Z = (fl (fun _ => true) X [⟨0, hsec all.length⟩] 1, [], true) := by
    rw [hap, if_neg (by omega), if_neg (by omega), if_neg (by omega)]
  rw [hZ]
  dsimp only
  have hHd : DOk X [⟨0, hsec all.length⟩] := ⟨hXd.l1, hXd.l4, hXd.s, by simp, fun w hw => by
    rw [List.mem_singleton.1 hw]
    exact ⟨by simp, by show (0 : Int) < X.length; have := hXd.l1; omega, hsec_len _⟩⟩
  have d3 := fnDoS (g := g) hHd (k := a - (j : Int) - 1 - 1) (by omega) (by omega)
  clear hap
  rw [show ([⟨0, hsec all.length⟩] : List Pt).length = 1 from rfl] at d3
  generalize fl (fun _ => true) X [⟨0, hsec all.length⟩] 1 = Y at *
  generalize hsec all.length = H at *
  repeat (first | refine Run.seq ?_ | refine Run.skip ?_ | refine Run.block ?_)
  refine Run.region ?_
  refine O.move rfl rfl ?_
  refine O.lend (bx' := [(6, .var [.pv .nil, .pv .nil])]) (ln := [200]) d1 rfl rfl rfl (.inr (men_args2 rfl rfl)) (by repeat (first | exact BxIn.nil | refine BxIn.cons rfl ?_)) rfl rfl rfl rfl rfl rfl rfl rfl rfl rfl ?_
  refine O.move rfl rfl ?_
  first | (refine O.yes rfl rfl (by first | rfl | assumption) ?_; refine O.move rfl rfl ?_) | refine O.no rfl rfl rfl rfl ?_
  first | (refine O.yes rfl rfl (by first | rfl | assumption) ?_; refine O.move rfl rfl ?_) | refine O.no rfl rfl rfl rfl ?_
  first | (refine O.yes rfl rfl (by first | rfl | assumption) ?_; refine O.shrQ rfl rfl (by omega) (fdq (p := 65536) (by decide) (by omega)) rfl ?_) | refine O.no rfl rfl rfl rfl ?_
  first | (refine O.yes rfl rfl (by first | rfl | assumption) ?_; refine O.convQ hE T3 T5 rfl rfl w8 rfl ?_) | refine O.no rfl rfl rfl rfl ?_
  first | (refine O.yes rfl rfl (by first | rfl | assumption) ?_; refine O.move rfl rfl ?_) | refine O.no rfl rfl rfl rfl ?_
  first | (refine O.yes rfl rfl (by first | rfl | assumption) ?_; refine O.shrQ rfl rfl (by omega) (fdq (p := 256) (by decide) (by omega)) rfl ?_) | refine O.no rfl rfl rfl rfl ?_
  first | (refine O.yes rfl rfl (by first | rfl | assumption) ?_; refine O.convQ hE T3 T5 rfl rfl w8 rfl ?_) | refine O.no rfl rfl rfl rfl ?_
  first | (refine O.yes rfl rfl (by first | rfl | assumption) ?_; refine O.move rfl rfl ?_) | refine O.no rfl rfl rfl rfl ?_
  first | (refine O.yes rfl rfl (by first | rfl | assumption) ?_; refine O.convQ hE T3 T5 rfl rfl w8 rfl ?_) | refine O.no rfl rfl rfl rfl ?_
  first | (refine O.yes rfl rfl (by first | rfl | assumption) ?_; refine O.litV hE T32 rfl T5 rfl rfl rfl rfl rfl rfl rfl ?_) | refine O.no rfl rfl rfl rfl ?_
  first | (refine O.yes rfl rfl (by first | rfl | assumption) ?_; refine O.lend (bx' := [(6, .var [.pv .nil, .pv .nil])]) (ln := [200]) d2 rfl rfl rfl (.inr (men_args3 rfl rfl rfl)) (by repeat (first | exact BxIn.nil | refine BxIn.cons rfl ?_)) rfl rfl rfl rfl rfl rfl rfl rfl rfl rfl ?_) | refine O.no rfl rfl rfl rfl ?_
  refine O.pick rfl rfl rfl rfl rfl ?_
  refine O.move rfl rfl ?_
  first | (refine O.yes rfl rfl (by first | rfl | assumption) ?_; refine O.move rfl rfl ?_) | refine O.no rfl rfl rfl rfl ?_
  first | (refine O.yes rfl rfl (by first | rfl | assumption) ?_; refine O.lend (bx' := [(6, .var [.pv .nil, .pv .nil])]) (ln := [200]) d3 rfl rfl rfl (.inr (men_args2 rfl rfl)) (by repeat (first | exact BxIn.nil | refine BxIn.cons rfl ?_)) rfl rfl rfl rfl rfl rfl rfl rfl rfl rfl ?_) | refine O.no rfl rfl rfl rfl ?_
  refine O.pick rfl rfl rfl rfl rfl ?_
  refine O.assign rfl rfl ?_
  refine O.nil ?_
  try refine Run.keep [0, 1, 2, 3, 6, 7, 8, 10, 11, 12, 13, 14, 15, 16, 17, 24, 34, 39, 47, 63, 80, 97] rfl rfl ?_
  repeat (first | refine Run.seq ?_ | refine Run.skip ?_ | refine Run.block ?_)
  refine Run.region ?_
  refine O.move rfl rfl ?_
  refine O.nilCheck rfl rfl ?_
  refine O.field hE L49 rfl rfl rfl rfl ?_
  refine O.load hE T26 rfl rfl rfl rfl ?_
  refine O.move rfl rfl ?_
  refine O.store hE T26 rfl rfl rfl rfl rfl rfl ?_
  refine O.assign rfl rfl ?_
  refine O.assign rfl rfl ?_
  refine O.nil ?_
  try refine Run.keep [0, 1, 2, 3, 6, 7, 8, 10, 11, 12, 13, 14, 15, 16, 17, 24, 34, 39, 47, 63, 80, 97] rfl rfl ?_
  refine Run.ret ?_
  exact Ends.of hE (.inr rfl) rfl rfl (SLe.drop (by repeat (first | exact TmIn.nil | refine TmIn.cons rfl ?_)) (by repeat (first | exact BxIn.nil | refine BxIn.cons rfl ?_)) rfl rfl)
end Go.Proofs.Ytalcpfpjkfpmbaa.Vm
