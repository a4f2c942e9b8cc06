/- Tapes: the bytes that are good. Conditions: none. -/
import Derived.Test.YtalcpfpjkfpmbaaTapeC
namespace Go.Proofs.Ytalcpfpjkfpmbaa.Vm
open Go Go.RowKit
set_option linter.unusedVariables false
set_option linter.unusedSimpArgs false
attribute [local irreducible] Ops Dr Run
abbrev byP (b : List Int) : PV := .lst 1 (b.map (PV.int .u8))
variable {g : Nat → Option (List PV)}
theorem fnGood {Ls : List (List Int)} {bs : List Int} (h : TG Ls bs) : FnC (En Try.prog g) 13 [dskA Ls []] (.tup [.pv (byP bs), .pv (.int .i64 0)]) [] := by
  have hE := EnOk g
  have c1 := fnHead (g := g) h
  have cr := fun (j : Nat) (hj : 1 + j < Ls.length) => fnDRead (g := g) h.dok (i := 1 + j) hj
  have hcat := fun (j : Nat) (hj : 1 + j ≤ Ls.length) => h.cat (j := j) hj
  have hlen := fun (j : Nat) (hj : 1 + j ≤ Ls.length) => catS_len h.s j hj
  have hsec := fun (j : Nat) (hj : 1 + j < Ls.length) => getD_len h.s hj
  obtain ⟨l1, l4, hs, hd, fit, _⟩ := h
  refine FnC.of Try.func13 rfl rfl rfl rfl ?_
  repeat (first | refine Run.seq ?_ | refine Run.skip ?_ | refine Run.block ?_)
  refine Run.region ?_
  refine O.box 1 rfl (by first | rfl | exact cells_ones (by simp [ones_app, ones_ints, ones, AV.one, PV.one])) rfl rfl ?_
  refine O.assign rfl rfl ?_
  refine O.assign rfl rfl ?_
  refine O.nil ?_
  try refine Run.keep [0, 1, 2, 3, 4, 5, 6, 7, 8, 9, 16, 21, 31] rfl rfl ?_
  repeat (first | refine Run.seq ?_ | refine Run.skip ?_ | refine Run.block ?_)
  refine Run.region ?_
  refine O.load hE T26 rfl rfl rfl rfl ?_
  refine O.callE c1 rfl (by first | rfl | simp [closed, men3, mens2_app, mens2_ints, mens2, men2, men1, mens1_app, mens1_ints, mens1]) (by first | rfl | simp [d2, ds1_ints, ds1_app, ds1, d1, ds0_app, ds0_ints, ds0, d0]) rfl ?_
  refine O.move rfl rfl ?_
  refine O.extract rfl rfl rfl ?_
  refine O.extract rfl rfl rfl ?_
  refine O.assign rfl rfl ?_
  refine O.assign rfl rfl ?_
  refine O.nil ?_
  try refine Run.keep [0, 1, 2, 3, 4, 5, 6, 7, 8, 9, 16, 21, 31] rfl rfl ?_
  repeat (first | refine Run.seq ?_ | refine Run.skip ?_ | refine Run.block ?_)
  refine Run.region ?_
  refine O.move rfl rfl ?_
  first | refine O.cmp rfl rfl rfl (by first | exact decide_eq_true (by omega) | exact decide_eq_false (by omega)) rfl ?_ | refine O.cmp rfl rfl rfl rfl rfl ?_
  refine O.nil ?_
  try refine Run.keep [0, 1, 2, 3, 4, 5, 6, 7, 8, 9, 16, 21, 31] rfl rfl ?_
  repeat (first | refine Run.seq ?_ | refine Run.skip ?_)
  first | refine Run.condT rfl rfl ?_ | refine Run.condF rfl rfl ?_ | refine Run.condT rfl (by assumption) ?_ | refine Run.condF rfl (by assumption) ?_
  repeat (first | refine Run.seq ?_ | refine Run.skip ?_ | refine Run.block ?_)
  refine Run.region ?_
  refine O.assign rfl rfl ?_
  refine O.nil ?_
  try refine Run.keep [0, 1, 2, 3, 4, 5, 6, 7, 8, 9, 16, 21, 31] rfl rfl ?_
  repeat (first | refine Run.seq ?_ | refine Run.skip ?_ | refine Run.block ?_)
  refine Run.region ?_
  refine O.assign rfl rfl ?_
  refine O.nil ?_
  try refine Run.keep [0, 1, 2, 3, 4, 5, 6, 7, 8, 9, 16, 21, 31] rfl rfl ?_
  refine Run.pre (SLe.nilBox (t := 6) (b := 100) (e := 5) (sz := 1) rfl rfl rfl rfl) ?_
  repeat (first | refine Run.seq ?_ | refine Run.skip ?_)
  refine Run.block ?_
  refine Run.loopInv (ι := Nat) (fun j => 1 + j ≤ Ls.length) (fun j => ⟨39, [(1, .ptr 1 0), (4, .pv (.int .i64 bs.length)), (6, .gl 100 (catS Ls j).length), (7, .pv (.int .i64 ((1 + j : Nat) : Int)))], [(100, .lst 5 1 ((catS Ls j).map (PV.int .u8))), (1, .var [.pv (.lst 32 (Ls.map secE)), .pv (.lst 33 ([].map putE))])]⟩) (fun j => Ls.length - j) 0 (by omega) ?_ ?_
  ·
    exact SLe.drop (by repeat (first | exact TmIn.nil | refine TmIn.cons rfl ?_)) (by repeat (first | exact BxIn.nil | refine BxIn.cons rfl ?_)) rfl rfl
  rintro j hj ih
  have hl0 := hlen j hj
  have hcl : (((catS Ls j).map (PV.int .u8)).length : Int) = (catS Ls j).length := by simp
  by_cases hlt : 32 * j < bs.length
  ·
    have cj := cr j (by omega)
    have hsj := hsec j (by omega)
    rw [show rdS Ls (1 + j) [] ([] : List Pt).length = Ls.getD (1 + j) [] from rfl] at cj
    have hst : catS Ls (j + 1) = catS Ls j ++ Ls.getD (1 + j) [] := rfl
    generalize catS Ls j = Q at *
    generalize Ls.getD (1 + j) [] = X at *
    have c2 : IntKind.i64.wrap (((1 + j : Nat) : Int) + 1) = ((1 + (j + 1) : Nat) : Int) := by rw [wrap_i64 (by omega) (by omega)]; omega
    repeat (first | refine Run.seq ?_ | refine Run.skip ?_ | refine Run.block ?_)
    refine Run.region ?_
    refine O.move rfl rfl ?_
    refine O.lenN hE T32 rfl rfl rfl (newest_gl rfl (by simp)) hcl rfl ?_
    refine O.move rfl rfl ?_
    first | refine O.cmp rfl rfl rfl (by first | exact decide_eq_true (by omega) | exact decide_eq_false (by omega)) rfl ?_ | refine O.cmp rfl rfl rfl rfl rfl ?_
    refine O.nil ?_
    try refine Run.keep [0, 1, 2, 3, 4, 5, 6, 7, 8, 9, 16, 21, 31] rfl rfl ?_
    repeat (first | refine Run.seq ?_ | refine Run.skip ?_)
    first | refine Run.condT rfl rfl ?_ | refine Run.condF rfl rfl ?_ | refine Run.condT rfl (by assumption) ?_ | refine Run.condF rfl (by assumption) ?_
    repeat (first | refine Run.seq ?_ | refine Run.skip ?_ | refine Run.block ?_)
    refine Run.region ?_
    refine O.load hE T26 rfl rfl rfl rfl ?_
    refine O.move rfl rfl ?_
    refine O.callE cj rfl rfl (by simp only [d2, ds1, d1, ds0_pvs, Bool.and_self]) rfl ?_
    refine O.move rfl rfl ?_
    refine O.extract rfl rfl rfl ?_
    refine O.extract rfl rfl rfl ?_
    first | refine O.allocS hE 8 T64 ints_zero rfl rfl ?_ | refine O.alloc hE 8 T64 rfl rfl rfl ?_
    refine O.storeS hE T64 rfl rfl (cells_cel X) rfl (by simp [hsj]) (by simp [ints_len, hsj]) (setAt_all _ _ (by simp [ints_len, hsj])) ?_
    refine O.assign rfl rfl ?_
    refine O.nil ?_
    try refine Run.keep [0, 1, 2, 3, 4, 5, 6, 7, 8, 9, 16, 21, 31] rfl rfl ?_
    repeat (first | refine Run.seq ?_ | refine Run.skip ?_ | refine Run.block ?_)
    refine Run.region ?_
    refine O.move rfl rfl ?_
    first | refine O.cmp rfl rfl rfl (by first | exact decide_eq_true (by omega) | exact decide_eq_false (by omega)) rfl ?_ | refine O.cmp rfl rfl rfl rfl rfl ?_
    refine O.nil ?_
    try refine Run.keep [0, 1, 2, 3, 4, 5, 6, 7, 8, 9, 16, 21, 31] rfl rfl ?_
    repeat (first | refine Run.seq ?_ | refine Run.skip ?_)
    first | refine Run.condT rfl rfl ?_ | refine Run.condF rfl rfl ?_ | refine Run.condT rfl (by assumption) ?_ | refine Run.condF rfl (by assumption) ?_
    refine Run.freeze (ps := X.map (PV.int .u8)) (tm' := [(1, .ptr 1 0), (4, .pv (.int .i64 bs.length)), (6, .gl 100 Q.length), (7, .pv (.int .i64 ((1 + j : Nat) : Int))), (8, .eptr (X.map (PV.int .u8)))]) (bx' := [(100, .lst 5 1 (Q.map (PV.int .u8))), (1, .var [.pv (.lst 32 (Ls.map secE)), .pv (.lst 33 ([].map putE))])]) 8 rfl (by repeat (first | exact TmFz.nil | refine TmFz.keep rfl ?_ | refine TmFz.fz rfl rfl ?_)) (by repeat (first | exact BxIn.nil | refine BxIn.cons rfl ?_)) rfl (by first | rfl | simp [mtm, men3, mens2_app, mens2_ints, mens2, men2, men1, has, look]) (by first | rfl | simp [mbx, menB, mens2_app, mens2_ints, mens2, men2, men1]) ?_
    repeat (first | refine Run.seq ?_ | refine Run.skip ?_ | refine Run.block ?_)
    refine Run.region ?_
    refine O.move rfl rfl ?_
    refine O.sliceE hE T64 rfl T5 rfl hsj rfl rfl ?_
    refine O.appI hE T32 rfl T5 rfl rfl (by first | rfl | simp) rfl rfl (by first | exact newest_pv | exact newest_gl rfl rfl | trivial) rfl rfl rfl rfl (by first | (simp only [List.length_append, Nat.mul_one]; omega) | (simp only [Nat.mul_one]; omega) | omega) (by unfold maxLen; first | (simp only [List.length_append]; omega) | omega) rfl ?_
    refine O.assign rfl rfl ?_
    refine O.nil ?_
    try refine Run.keep [0, 1, 2, 3, 4, 5, 6, 7, 8, 9, 16, 21, 31] rfl rfl ?_
    repeat (first | refine Run.seq ?_ | refine Run.skip ?_ | refine Run.block ?_)
    refine Run.region ?_
    refine O.move rfl rfl ?_
    refine O.ar (q := ((1 + (j + 1) : Nat) : Int)) rfl rfl rfl c2 rfl ?_
    refine O.assign rfl rfl ?_
    refine O.nil ?_
    try refine Run.keep [0, 1, 2, 3, 4, 5, 6, 7, 8, 9, 16, 21, 31] rfl rfl ?_
    refine ih (j + 1) _ ?_ (by omega) (by omega)
    rw [hst]
    exact SLe.drop (by repeat (first | exact TmIn.nil | refine TmIn.cons rfl ?_)) (by repeat (first | exact BxIn.nil | refine BxIn.cons rfl ?_)) rfl rfl
  have hc := hcat j hj (by omega)
  repeat (first | refine Run.seq ?_ | refine Run.skip ?_ | refine Run.block ?_)
  refine Run.region ?_
  refine O.move rfl rfl ?_
  refine O.lenN hE T32 rfl rfl rfl (newest_gl rfl (by simp)) hcl rfl ?_
  refine O.move rfl rfl ?_
  first | refine O.cmp rfl rfl rfl (by first | exact decide_eq_true (by omega) | exact decide_eq_false (by omega)) rfl ?_ | refine O.cmp rfl rfl rfl rfl rfl ?_
  refine O.nil ?_
  try refine Run.keep [0, 1, 2, 3, 4, 5, 6, 7, 8, 9, 16, 21, 31] rfl rfl ?_
  repeat (first | refine Run.seq ?_ | refine Run.skip ?_)
  first | refine Run.condT rfl rfl ?_ | refine Run.condF rfl rfl ?_ | refine Run.condT rfl (by assumption) ?_ | refine Run.condF rfl (by assumption) ?_
  refine Run.exit ?_
  repeat (first | refine thenR_exit ?_ | refine roundR_exit ?_ | refine blockR_exit ?_ | refine blockR_pass rfl ?_)
  have hys : ((((catS Ls j).map (PV.int .u8)).take (bs.length : Int).toNat).drop (0 : Int).toNat) = bs.map (PV.int .u8) := by
    rw [Int.toNat_natCast, ← List.map_take, hc]; rfl
  repeat (first | refine Run.seq ?_ | refine Run.skip ?_ | refine Run.block ?_)
  refine Run.region ?_
  refine O.move rfl rfl ?_
  refine O.move rfl rfl ?_
  refine O.slice hE T32 rfl T5 rfl rfl (newest_gl rfl (by simp)) rfl rfl rfl (by omega) (by omega) (by simp; omega) hys rfl ?_
  refine O.assign rfl rfl ?_
  refine O.assign rfl rfl ?_
  refine O.nil ?_
  try refine Run.keep [0, 1, 2, 3, 4, 5, 6, 7, 8, 9, 16, 21, 31] rfl rfl ?_
  (repeat (first | refine Run.seq ?_ | refine Run.skip ?_)); (try refine Run.ret ?_); first | exact Ends.flat hE (.inr rfl) rfl rfl (AVle.of_eq rfl) rfl | exact Ends.flat hE (.inl rfl) rfl rfl (AVle.of_eq rfl) rfl
end Go.Proofs.Ytalcpfpjkfpmbaa.Vm
