/- The kind of an expression: kinds.of, Of. Conditions: what utf8.ValidString answers. -/
import Derived.Test.YtdigejpgjnhclaaDoorKindE
namespace Go.Proofs.YtdigejpgjnhclaaDoor.Vm
open Go Go.RowKit Go.Lib
set_option linter.unusedVariables false
set_option linter.unusedSimpArgs false
attribute [local irreducible] Ops Dr Run
variable {g : Nat → Option (List PV)}
def cel1 (s : Srt) : Nat → List AV
  | 0 => [.pv (.int .i64 0), .pv (.bool false), .pv (.int .i64 0), .pv (.bool false)]
  | _ + 1 => [.pv (.int .i64 s.kd), .pv (.bool s.nl), .pv (.int .i64 0), .pv (.bool false)]
theorem fnOf1 {cs : List Kol} {op : Int} {a : Xp} {s r : Srt} (hop : op ≠ 1 ∧ op ≠ 2) (ha : FnC (En Tryd.prog g) 35 [xA a, .pv (.lst 3 (cs.map kolE))] (.tup [srtA s, .pv (.int .i64 0)]) []) 
    (hj : FnC (En Tryd.prog g) 47 [.pv (.int .i64 op), .pv (.int .i64 1), .agg [.pv (.int .i64 s.kd), .pv (.bool s.nl), .pv (.int .i64 0), .pv (.bool false)]] (.tup [srtA r, .pv (.int .i64 0)]) []) :
    FnC (En Tryd.prog g) 35 [xA (.un op a), .pv (.lst 3 (cs.map kolE))] (.tup [srtA r, .pv (.int .i64 0)]) [] := by
  have hE := EnOk g
  obtain ⟨o1, o2⟩ := hop
  obtain ⟨rk, rn⟩ := r
  obtain ⟨sk, sn⟩ := s
  dsimp only [xA, Xp.op, Xp.v, Xp.nm, Xp.as] at ha hj ⊢
  refine FnC.of Tryd.func35 rfl rfl rfl rfl ?_
  repeat (first | refine Run.seq ?_ | refine Run.skip ?_ | refine Run.block ?_)
  refine Run.region ?_
  refine O.box 2 rfl (by first | rfl | exact cells_ones (by simp [ones_app, ones_ints, ones, AV.one, PV.one])) rfl rfl ?_
  refine O.alloc hE 4 T73 rfl rfl rfl ?_
  refine O.assign rfl rfl ?_
  refine O.nil ?_
  try refine Run.keep [0, 1, 2, 4, 5, 7, 8, 9, 10, 11, 12, 14, 15, 25, 27, 28, 29, 30, 37, 46, 47, 48, 49, 60] rfl rfl ?_
  repeat (first | refine Run.seq ?_ | refine Run.skip ?_ | refine Run.block ?_)
  refine Run.region ?_
  refine O.field hE L28 rfl rfl rfl rfl ?_
  first | refine O.loadS hE T3 rfl rfl rfl (by rfl) rfl ?_ | refine O.loadE hE T3 rfl rfl (by rfl) rfl ?_ | refine O.load hE T3 rfl rfl rfl rfl ?_
  refine O.nil ?_
  try refine Run.keep [0, 1, 2, 4, 5, 7, 8, 9, 10, 11, 12, 14, 15, 25, 27, 28, 29, 30, 37, 46, 47, 48, 49, 60] rfl rfl ?_
  repeat (first | refine Run.seq ?_ | refine Run.skip ?_ | refine Run.block ?_)
  refine Run.region ?_
  first | refine O.cmp rfl rfl rfl (by first | exact decide_eq_true (by omega) | exact decide_eq_false (by omega)) rfl ?_ | refine O.cmp rfl rfl rfl rfl rfl ?_
  refine O.assign rfl rfl ?_
  refine O.nil ?_
  try refine Run.keep [0, 1, 2, 4, 5, 7, 8, 9, 10, 11, 12, 14, 15, 25, 27, 28, 29, 30, 37, 46, 47, 48, 49, 60] rfl rfl ?_
  repeat (first | refine Run.seq ?_ | refine Run.skip ?_)
  first | refine Run.condT rfl rfl ?_ | refine Run.condF rfl rfl ?_ | refine Run.condT rfl (by assumption) ?_ | refine Run.condF rfl (by assumption) ?_
  repeat (first | refine Run.seq ?_ | refine Run.skip ?_ | refine Run.block ?_)
  refine Run.region ?_
  first | refine O.cmp rfl rfl rfl (by first | exact decide_eq_true (by omega) | exact decide_eq_false (by omega)) rfl ?_ | refine O.cmp rfl rfl rfl rfl rfl ?_
  refine O.assign rfl rfl ?_
  refine O.nil ?_
  try refine Run.keep [0, 1, 2, 4, 5, 7, 8, 9, 10, 11, 12, 14, 15, 25, 27, 28, 29, 30, 37, 46, 47, 48, 49, 60] rfl rfl ?_
  repeat (first | refine Run.seq ?_ | refine Run.skip ?_)
  first | refine Run.condT rfl rfl ?_ | refine Run.condF rfl rfl ?_ | refine Run.condT rfl (by assumption) ?_ | refine Run.condF rfl (by assumption) ?_
  repeat (first | refine Run.seq ?_ | refine Run.skip ?_ | refine Run.block ?_)
  refine Run.region ?_
  first | refine O.allocS hE 8 T91 ints_zero rfl rfl ?_ | refine O.alloc hE 8 T91 rfl rfl rfl ?_
  refine O.nil ?_
  try refine Run.keep [0, 1, 2, 4, 5, 7, 8, 9, 10, 11, 12, 14, 15, 25, 27, 28, 29, 30, 37, 46, 47, 48, 49, 60] rfl rfl ?_
  repeat (first | refine Run.seq ?_ | refine Run.skip ?_ | refine Run.block ?_)
  refine Run.region ?_
  refine O.field hE L28 rfl rfl rfl rfl ?_
  first | refine O.loadS hE T26 rfl rfl rfl (by rfl) rfl ?_ | refine O.loadE hE T26 rfl rfl (by rfl) rfl ?_ | refine O.load hE T26 rfl rfl rfl rfl ?_
  first | refine O.lenN hE T26 rfl rfl rfl (by first | exact newest_pv | exact newest_gl rfl rfl | trivial) lenC rfl ?_ | refine O.lenLst hE T26 rfl rfl rfl (by first | exact newest_pv | exact newest_gl rfl rfl | trivial) rfl ?_
  refine O.move rfl rfl ?_
  refine O.nil ?_
  try refine Run.keep [0, 1, 2, 4, 5, 7, 8, 9, 10, 11, 12, 14, 15, 25, 27, 28, 29, 30, 37, 46, 47, 48, 49, 60] rfl rfl ?_
  repeat (first | refine Run.seq ?_ | refine Run.skip ?_)
  refine Run.block ?_
  refine Run.loopInv (ι := Nat) (fun j => j ≤ 1)
    (fun j => ⟨76, [(1, .pv (.lst 3 (cs.map kolE))), (2, .ptr 2 0), (4, .ptr 4 0), (5, .pv (.int .i64 0)), (8, .ptr 8 0), (46, .pv (.lst 7 [xE a])), (47, .pv (.int .i64 1)), (48, .pv (.int .i64 j))], [(8, .var (cel1 ⟨sk, sn⟩ j)), (4, .var [.pv (.int .i64 0), .pv (.bool false)]), (2, .var [.pv (.int .i64 op), .pv (.int .i64 0), .pv (.int .i64 0), .pv (.int .u64 0), .pv (.str noS), .pv (.str noS), .pv (.lst 7 [xE a])])]⟩) (fun j => 1 - j) 0 (by omega) ?_ ?_
  ·
    exact SLe.drop (by repeat (first | exact TmIn.nil | refine TmIn.cons rfl ?_)) (by repeat (first | exact BxIn.nil | refine BxIn.cons rfl ?_)) rfl rfl
  rintro j hj0 ih
  have hjc : j = 0 ∨ j = 1 := by omega
  rcases hjc with rfl | rfl
  ·
    have hat : ([xE a] : List PV)[((0 : Nat) : Int).toNat]? = some (xE a) := rfl
    repeat (first | refine Run.seq ?_ | refine Run.skip ?_ | refine Run.block ?_)
    refine Run.region ?_
    first | refine O.cmp rfl rfl rfl (by first | exact decide_eq_true (by omega) | exact decide_eq_false (by omega)) rfl ?_ | refine O.cmp rfl rfl rfl rfl rfl ?_
    refine O.nil ?_
    try refine Run.keep [0, 1, 2, 4, 5, 7, 8, 9, 10, 11, 12, 14, 15, 25, 27, 28, 29, 30, 37, 46, 47, 48, 49, 60] rfl rfl ?_
    repeat (first | refine Run.seq ?_ | refine Run.skip ?_)
    first | refine Run.condT rfl rfl ?_ | refine Run.condF rfl rfl ?_ | refine Run.condT rfl (by assumption) ?_ | refine Run.condF rfl (by assumption) ?_
    repeat (first | refine Run.seq ?_ | refine Run.skip ?_ | refine Run.block ?_)
    refine Run.region ?_
    refine O.move rfl rfl ?_
    refine O.index hE T26 rfl T28 rfl rfl (by first | exact newest_pv | exact newest_gl rfl rfl | trivial) rfl (by omega) (by first | assumption | rfl) rfl rfl rfl ?_
    refine O.load hE T28 rfl rfl rfl rfl ?_
    refine O.alloc hE 10 T28 rfl rfl rfl ?_
    refine O.assign rfl rfl ?_
    refine O.store hE T28 rfl rfl rfl rfl rfl rfl ?_
    refine O.nil ?_
    try refine Run.keep [0, 1, 2, 4, 5, 7, 8, 9, 10, 11, 12, 14, 15, 25, 27, 28, 29, 30, 37, 46, 47, 48, 49, 60] rfl rfl ?_
    repeat (first | refine Run.seq ?_ | refine Run.skip ?_ | refine Run.block ?_)
    refine Run.region ?_
    refine O.load hE T28 rfl rfl rfl rfl ?_
    refine O.move rfl rfl ?_
    refine O.callE ha rfl (by first | rfl | simp [closed, men3, mens2_app, mens2_ints, mens2, men2, men1, mens1_app, mens1_ints, mens1]) (by first | rfl | simp [d2, ds1_ints, ds1_app, ds1, d1, ds0_app, ds0_ints, ds0, d0]) rfl ?_
    refine O.move rfl rfl ?_
    refine O.extract rfl rfl rfl ?_
    refine O.extract rfl rfl rfl ?_
    refine O.alloc hE 11 T73 rfl rfl rfl ?_
    refine O.store hE T73 rfl rfl rfl rfl rfl rfl ?_
    refine O.assign rfl rfl ?_
    refine O.nil ?_
    try refine Run.keep [0, 1, 2, 4, 5, 7, 8, 9, 10, 11, 12, 14, 15, 25, 27, 28, 29, 30, 37, 46, 47, 48, 49, 60] rfl rfl ?_
    repeat (first | refine Run.seq ?_ | refine Run.skip ?_ | refine Run.block ?_)
    refine Run.region ?_
    refine O.move rfl rfl ?_
    first | refine O.cmp rfl rfl rfl (by first | exact decide_eq_true (by omega) | exact decide_eq_false (by omega)) rfl ?_ | refine O.cmp rfl rfl rfl rfl rfl ?_
    refine O.nil ?_
    try refine Run.keep [0, 1, 2, 4, 5, 7, 8, 9, 10, 11, 12, 14, 15, 25, 27, 28, 29, 30, 37, 46, 47, 48, 49, 60] rfl rfl ?_
    repeat (first | refine Run.seq ?_ | refine Run.skip ?_)
    first | refine Run.condT rfl rfl ?_ | refine Run.condF rfl rfl ?_ | refine Run.condT rfl (by assumption) ?_ | refine Run.condF rfl (by assumption) ?_
    repeat (first | refine Run.seq ?_ | refine Run.skip ?_ | refine Run.block ?_)
    refine Run.region ?_
    refine O.move rfl rfl ?_
    refine O.load hE T73 rfl rfl rfl rfl ?_
    refine O.indexA hE T91 rfl T73 rfl rfl (by omega) (by omega) rfl rfl rfl ?_
    refine O.store hE T73 rfl rfl rfl rfl rfl rfl ?_
    refine O.nil ?_
    try refine Run.keep [0, 1, 2, 4, 5, 7, 8, 9, 10, 11, 12, 14, 15, 25, 27, 28, 29, 30, 37, 46, 47, 48, 49, 60] rfl rfl ?_
    repeat (first | refine Run.seq ?_ | refine Run.skip ?_ | refine Run.block ?_)
    refine Run.region ?_
    first | refine O.ar rfl rfl rfl (by exact wrap_i64 (by omega) (by omega)) rfl ?_ | refine O.ar rfl rfl rfl rfl rfl ?_
    refine O.move rfl rfl ?_
    refine O.nil ?_
    try refine Run.keep [0, 1, 2, 4, 5, 7, 8, 9, 10, 11, 12, 14, 15, 25, 27, 28, 29, 30, 37, 46, 47, 48, 49, 60] rfl rfl ?_
    exact ih 1 _ (SLe.drop (by repeat (first | exact TmIn.nil | refine TmIn.cons rfl ?_)) (by repeat (first | exact BxIn.nil | refine BxIn.cons rfl ?_)) rfl rfl) (by omega) (by omega)
  ·
    repeat (first | refine Run.seq ?_ | refine Run.skip ?_ | refine Run.block ?_)
    refine Run.region ?_
    first | refine O.cmp rfl rfl rfl (by first | exact decide_eq_true (by omega) | exact decide_eq_false (by omega)) rfl ?_ | refine O.cmp rfl rfl rfl rfl rfl ?_
    refine O.nil ?_
    try refine Run.keep [0, 1, 2, 4, 5, 7, 8, 9, 10, 11, 12, 14, 15, 25, 27, 28, 29, 30, 37, 46, 47, 48, 49, 60] rfl rfl ?_
    repeat (first | refine Run.seq ?_ | refine Run.skip ?_)
    first | refine Run.condT rfl rfl ?_ | refine Run.condF rfl rfl ?_ | refine Run.condT rfl (by assumption) ?_ | refine Run.condF rfl (by assumption) ?_
    refine Run.exit ?_
    repeat (first | refine thenR_exit ?_ | refine roundR_exit ?_ | refine blockR_exit ?_ | refine blockR_pass rfl ?_)
    repeat (first | refine Run.seq ?_ | refine Run.skip ?_ | refine Run.block ?_)
    refine Run.region ?_
    refine O.field hE L28 rfl rfl rfl rfl ?_
    first | refine O.loadS hE T3 rfl rfl rfl (by rfl) rfl ?_ | refine O.loadE hE T3 rfl rfl (by rfl) rfl ?_ | refine O.load hE T3 rfl rfl rfl rfl ?_
    refine O.field hE L28 rfl rfl rfl rfl ?_
    first | refine O.loadS hE T26 rfl rfl rfl (by rfl) rfl ?_ | refine O.loadE hE T26 rfl rfl (by rfl) rfl ?_ | refine O.load hE T26 rfl rfl rfl rfl ?_
    first | refine O.lenN hE T26 rfl rfl rfl (by first | exact newest_pv | exact newest_gl rfl rfl | trivial) lenC rfl ?_ | refine O.lenLst hE T26 rfl rfl rfl (by first | exact newest_pv | exact newest_gl rfl rfl | trivial) rfl ?_
    refine O.load hE T91 rfl rfl rfl rfl ?_
    refine O.callE hj rfl (by first | rfl | simp [closed, men3, mens2_app, mens2_ints, mens2, men2, men1, mens1_app, mens1_ints, mens1]) (by first | rfl | simp [d2, ds1_ints, ds1_app, ds1, d1, ds0_app, ds0_ints, ds0, d0]) rfl ?_
    refine O.extract rfl rfl rfl ?_
    refine O.extract rfl rfl rfl ?_
    refine O.store hE T73 rfl rfl rfl rfl rfl rfl ?_
    refine O.assign rfl rfl ?_
    refine O.nil ?_
    try refine Run.keep [0, 1, 2, 4, 5, 7, 8, 9, 10, 11, 12, 14, 15, 25, 27, 28, 29, 30, 37, 46, 47, 48, 49, 60] rfl rfl ?_
    (repeat (first | refine Run.seq ?_ | refine Run.skip ?_)); (try refine Run.ret ?_); first | exact Ends.flat hE (.inr rfl) rfl rfl (AVle.of_eq rfl) rfl | exact Ends.flat hE (.inl rfl) rfl rfl (AVle.of_eq rfl) rfl
def cel2 (s t : Srt) : Nat → List AV
  | 0 => [.pv (.int .i64 0), .pv (.bool false), .pv (.int .i64 0), .pv (.bool false)]
  | 1 => [.pv (.int .i64 s.kd), .pv (.bool s.nl), .pv (.int .i64 0), .pv (.bool false)]
  | _ + 2 => [.pv (.int .i64 s.kd), .pv (.bool s.nl), .pv (.int .i64 t.kd), .pv (.bool t.nl)]
theorem fnOf2 {cs : List Kol} {op : Int} {a b : Xp} {s t r : Srt} (hop : op ≠ 1 ∧ op ≠ 2) (ha : FnC (En Tryd.prog g) 35 [xA a, .pv (.lst 3 (cs.map kolE))] (.tup [srtA s, .pv (.int .i64 0)]) []) (hb : FnC (En Tryd.prog g) 35 [xA b, .pv (.lst 3 (cs.map kolE))] (.tup [srtA t, .pv (.int .i64 0)]) []) 
    (hj : FnC (En Tryd.prog g) 47 [.pv (.int .i64 op), .pv (.int .i64 2), .agg [.pv (.int .i64 s.kd), .pv (.bool s.nl), .pv (.int .i64 t.kd), .pv (.bool t.nl)]] (.tup [srtA r, .pv (.int .i64 0)]) []) :
    FnC (En Tryd.prog g) 35 [xA (.bi op a b), .pv (.lst 3 (cs.map kolE))] (.tup [srtA r, .pv (.int .i64 0)]) [] := by
  have hE := EnOk g
  obtain ⟨o1, o2⟩ := hop
  obtain ⟨rk, rn⟩ := r
  obtain ⟨sk, sn⟩ := s
  obtain ⟨tk, tn⟩ := t
  dsimp only [xA, Xp.op, Xp.v, Xp.nm, Xp.as] at ha hb hj ⊢
  refine FnC.of Tryd.func35 rfl rfl rfl rfl ?_
  repeat (first | refine Run.seq ?_ | refine Run.skip ?_ | refine Run.block ?_)
  refine Run.region ?_
  refine O.box 2 rfl (by first | rfl | exact cells_ones (by simp [ones_app, ones_ints, ones, AV.one, PV.one])) rfl rfl ?_
  refine O.alloc hE 4 T73 rfl rfl rfl ?_
  refine O.assign rfl rfl ?_
  refine O.nil ?_
  try refine Run.keep [0, 1, 2, 4, 5, 7, 8, 9, 10, 11, 12, 14, 15, 25, 27, 28, 29, 30, 37, 46, 47, 48, 49, 60] rfl rfl ?_
  repeat (first | refine Run.seq ?_ | refine Run.skip ?_ | refine Run.block ?_)
  refine Run.region ?_
  refine O.field hE L28 rfl rfl rfl rfl ?_
  first | refine O.loadS hE T3 rfl rfl rfl (by rfl) rfl ?_ | refine O.loadE hE T3 rfl rfl (by rfl) rfl ?_ | refine O.load hE T3 rfl rfl rfl rfl ?_
  refine O.nil ?_
  try refine Run.keep [0, 1, 2, 4, 5, 7, 8, 9, 10, 11, 12, 14, 15, 25, 27, 28, 29, 30, 37, 46, 47, 48, 49, 60] rfl rfl ?_
  repeat (first | refine Run.seq ?_ | refine Run.skip ?_ | refine Run.block ?_)
  refine Run.region ?_
  first | refine O.cmp rfl rfl rfl (by first | exact decide_eq_true (by omega) | exact decide_eq_false (by omega)) rfl ?_ | refine O.cmp rfl rfl rfl rfl rfl ?_
  refine O.assign rfl rfl ?_
  refine O.nil ?_
  try refine Run.keep [0, 1, 2, 4, 5, 7, 8, 9, 10, 11, 12, 14, 15, 25, 27, 28, 29, 30, 37, 46, 47, 48, 49, 60] rfl rfl ?_
  repeat (first | refine Run.seq ?_ | refine Run.skip ?_)
  first | refine Run.condT rfl rfl ?_ | refine Run.condF rfl rfl ?_ | refine Run.condT rfl (by assumption) ?_ | refine Run.condF rfl (by assumption) ?_
  repeat (first | refine Run.seq ?_ | refine Run.skip ?_ | refine Run.block ?_)
  refine Run.region ?_
  first | refine O.cmp rfl rfl rfl (by first | exact decide_eq_true (by omega) | exact decide_eq_false (by omega)) rfl ?_ | refine O.cmp rfl rfl rfl rfl rfl ?_
  refine O.assign rfl rfl ?_
  refine O.nil ?_
  try refine Run.keep [0, 1, 2, 4, 5, 7, 8, 9, 10, 11, 12, 14, 15, 25, 27, 28, 29, 30, 37, 46, 47, 48, 49, 60] rfl rfl ?_
  repeat (first | refine Run.seq ?_ | refine Run.skip ?_)
  first | refine Run.condT rfl rfl ?_ | refine Run.condF rfl rfl ?_ | refine Run.condT rfl (by assumption) ?_ | refine Run.condF rfl (by assumption) ?_
  repeat (first | refine Run.seq ?_ | refine Run.skip ?_ | refine Run.block ?_)
  refine Run.region ?_
  first | refine O.allocS hE 8 T91 ints_zero rfl rfl ?_ | refine O.alloc hE 8 T91 rfl rfl rfl ?_
  refine O.nil ?_
  try refine Run.keep [0, 1, 2, 4, 5, 7, 8, 9, 10, 11, 12, 14, 15, 25, 27, 28, 29, 30, 37, 46, 47, 48, 49, 60] rfl rfl ?_
  repeat (first | refine Run.seq ?_ | refine Run.skip ?_ | refine Run.block ?_)
  refine Run.region ?_
  refine O.field hE L28 rfl rfl rfl rfl ?_
  first | refine O.loadS hE T26 rfl rfl rfl (by rfl) rfl ?_ | refine O.loadE hE T26 rfl rfl (by rfl) rfl ?_ | refine O.load hE T26 rfl rfl rfl rfl ?_
  first | refine O.lenN hE T26 rfl rfl rfl (by first | exact newest_pv | exact newest_gl rfl rfl | trivial) lenC rfl ?_ | refine O.lenLst hE T26 rfl rfl rfl (by first | exact newest_pv | exact newest_gl rfl rfl | trivial) rfl ?_
  refine O.move rfl rfl ?_
  refine O.nil ?_
  try refine Run.keep [0, 1, 2, 4, 5, 7, 8, 9, 10, 11, 12, 14, 15, 25, 27, 28, 29, 30, 37, 46, 47, 48, 49, 60] rfl rfl ?_
  repeat (first | refine Run.seq ?_ | refine Run.skip ?_)
  refine Run.block ?_
  refine Run.loopInv (ι := Nat) (fun j => j ≤ 2)
    (fun j => ⟨76, [(1, .pv (.lst 3 (cs.map kolE))), (2, .ptr 2 0), (4, .ptr 4 0), (5, .pv (.int .i64 0)), (8, .ptr 8 0), (46, .pv (.lst 7 [xE a, xE b])), (47, .pv (.int .i64 2)), (48, .pv (.int .i64 j))], [(8, .var (cel2 ⟨sk, sn⟩ ⟨tk, tn⟩ j)), (4, .var [.pv (.int .i64 0), .pv (.bool false)]), (2, .var [.pv (.int .i64 op), .pv (.int .i64 0), .pv (.int .i64 0), .pv (.int .u64 0), .pv (.str noS), .pv (.str noS), .pv (.lst 7 [xE a, xE b])])]⟩) (fun j => 2 - j) 0 (by omega) ?_ ?_
  ·
    exact SLe.drop (by repeat (first | exact TmIn.nil | refine TmIn.cons rfl ?_)) (by repeat (first | exact BxIn.nil | refine BxIn.cons rfl ?_)) rfl rfl
  rintro j hj0 ih
  have hjc : j = 0 ∨ j = 1 ∨ j = 2 := by omega
  rcases hjc with rfl | rfl | rfl
  ·
    have hat : ([xE a, xE b] : List PV)[((0 : Nat) : Int).toNat]? = some (xE a) := rfl
    repeat (first | refine Run.seq ?_ | refine Run.skip ?_ | refine Run.block ?_)
    refine Run.region ?_
    first | refine O.cmp rfl rfl rfl (by first | exact decide_eq_true (by omega) | exact decide_eq_false (by omega)) rfl ?_ | refine O.cmp rfl rfl rfl rfl rfl ?_
    refine O.nil ?_
    try refine Run.keep [0, 1, 2, 4, 5, 7, 8, 9, 10, 11, 12, 14, 15, 25, 27, 28, 29, 30, 37, 46, 47, 48, 49, 60] rfl rfl ?_
    repeat (first | refine Run.seq ?_ | refine Run.skip ?_)
    first | refine Run.condT rfl rfl ?_ | refine Run.condF rfl rfl ?_ | refine Run.condT rfl (by assumption) ?_ | refine Run.condF rfl (by assumption) ?_
    repeat (first | refine Run.seq ?_ | refine Run.skip ?_ | refine Run.block ?_)
    refine Run.region ?_
    refine O.move rfl rfl ?_
    refine O.index hE T26 rfl T28 rfl rfl (by first | exact newest_pv | exact newest_gl rfl rfl | trivial) rfl (by omega) (by first | assumption | rfl) rfl rfl rfl ?_
    refine O.load hE T28 rfl rfl rfl rfl ?_
    refine O.alloc hE 10 T28 rfl rfl rfl ?_
    refine O.assign rfl rfl ?_
    refine O.store hE T28 rfl rfl rfl rfl rfl rfl ?_
    refine O.nil ?_
    try refine Run.keep [0, 1, 2, 4, 5, 7, 8, 9, 10, 11, 12, 14, 15, 25, 27, 28, 29, 30, 37, 46, 47, 48, 49, 60] rfl rfl ?_
    repeat (first | refine Run.seq ?_ | refine Run.skip ?_ | refine Run.block ?_)
    refine Run.region ?_
    refine O.load hE T28 rfl rfl rfl rfl ?_
    refine O.move rfl rfl ?_
    refine O.callE ha rfl (by first | rfl | simp [closed, men3, mens2_app, mens2_ints, mens2, men2, men1, mens1_app, mens1_ints, mens1]) (by first | rfl | simp [d2, ds1_ints, ds1_app, ds1, d1, ds0_app, ds0_ints, ds0, d0]) rfl ?_
    refine O.move rfl rfl ?_
    refine O.extract rfl rfl rfl ?_
    refine O.extract rfl rfl rfl ?_
    refine O.alloc hE 11 T73 rfl rfl rfl ?_
    refine O.store hE T73 rfl rfl rfl rfl rfl rfl ?_
    refine O.assign rfl rfl ?_
    refine O.nil ?_
    try refine Run.keep [0, 1, 2, 4, 5, 7, 8, 9, 10, 11, 12, 14, 15, 25, 27, 28, 29, 30, 37, 46, 47, 48, 49, 60] rfl rfl ?_
    repeat (first | refine Run.seq ?_ | refine Run.skip ?_ | refine Run.block ?_)
    refine Run.region ?_
    refine O.move rfl rfl ?_
    first | refine O.cmp rfl rfl rfl (by first | exact decide_eq_true (by omega) | exact decide_eq_false (by omega)) rfl ?_ | refine O.cmp rfl rfl rfl rfl rfl ?_
    refine O.nil ?_
    try refine Run.keep [0, 1, 2, 4, 5, 7, 8, 9, 10, 11, 12, 14, 15, 25, 27, 28, 29, 30, 37, 46, 47, 48, 49, 60] rfl rfl ?_
    repeat (first | refine Run.seq ?_ | refine Run.skip ?_)
    first | refine Run.condT rfl rfl ?_ | refine Run.condF rfl rfl ?_ | refine Run.condT rfl (by assumption) ?_ | refine Run.condF rfl (by assumption) ?_
    repeat (first | refine Run.seq ?_ | refine Run.skip ?_ | refine Run.block ?_)
    refine Run.region ?_
    refine O.move rfl rfl ?_
    refine O.load hE T73 rfl rfl rfl rfl ?_
    refine O.indexA hE T91 rfl T73 rfl rfl (by omega) (by omega) rfl rfl rfl ?_
    refine O.store hE T73 rfl rfl rfl rfl rfl rfl ?_
    refine O.nil ?_
    try refine Run.keep [0, 1, 2, 4, 5, 7, 8, 9, 10, 11, 12, 14, 15, 25, 27, 28, 29, 30, 37, 46, 47, 48, 49, 60] rfl rfl ?_
    repeat (first | refine Run.seq ?_ | refine Run.skip ?_ | refine Run.block ?_)
    refine Run.region ?_
    first | refine O.ar rfl rfl rfl (by exact wrap_i64 (by omega) (by omega)) rfl ?_ | refine O.ar rfl rfl rfl rfl rfl ?_
    refine O.move rfl rfl ?_
    refine O.nil ?_
    try refine Run.keep [0, 1, 2, 4, 5, 7, 8, 9, 10, 11, 12, 14, 15, 25, 27, 28, 29, 30, 37, 46, 47, 48, 49, 60] rfl rfl ?_
    exact ih 1 _ (SLe.drop (by repeat (first | exact TmIn.nil | refine TmIn.cons rfl ?_)) (by repeat (first | exact BxIn.nil | refine BxIn.cons rfl ?_)) rfl rfl) (by omega) (by omega)
  ·
    have hat : ([xE a, xE b] : List PV)[((1 : Nat) : Int).toNat]? = some (xE b) := rfl
    repeat (first | refine Run.seq ?_ | refine Run.skip ?_ | refine Run.block ?_)
    refine Run.region ?_
    first | refine O.cmp rfl rfl rfl (by first | exact decide_eq_true (by omega) | exact decide_eq_false (by omega)) rfl ?_ | refine O.cmp rfl rfl rfl rfl rfl ?_
    refine O.nil ?_
    try refine Run.keep [0, 1, 2, 4, 5, 7, 8, 9, 10, 11, 12, 14, 15, 25, 27, 28, 29, 30, 37, 46, 47, 48, 49, 60] rfl rfl ?_
    repeat (first | refine Run.seq ?_ | refine Run.skip ?_)
    first | refine Run.condT rfl rfl ?_ | refine Run.condF rfl rfl ?_ | refine Run.condT rfl (by assumption) ?_ | refine Run.condF rfl (by assumption) ?_
    repeat (first | refine Run.seq ?_ | refine Run.skip ?_ | refine Run.block ?_)
    refine Run.region ?_
    refine O.move rfl rfl ?_
    refine O.index hE T26 rfl T28 rfl rfl (by first | exact newest_pv | exact newest_gl rfl rfl | trivial) rfl (by omega) (by first | assumption | rfl) rfl rfl rfl ?_
    refine O.load hE T28 rfl rfl rfl rfl ?_
    refine O.alloc hE 10 T28 rfl rfl rfl ?_
    refine O.assign rfl rfl ?_
    refine O.store hE T28 rfl rfl rfl rfl rfl rfl ?_
    refine O.nil ?_
    try refine Run.keep [0, 1, 2, 4, 5, 7, 8, 9, 10, 11, 12, 14, 15, 25, 27, 28, 29, 30, 37, 46, 47, 48, 49, 60] rfl rfl ?_
    repeat (first | refine Run.seq ?_ | refine Run.skip ?_ | refine Run.block ?_)
    refine Run.region ?_
    refine O.load hE T28 rfl rfl rfl rfl ?_
    refine O.move rfl rfl ?_
    refine O.callE hb rfl (by first | rfl | simp [closed, men3, mens2_app, mens2_ints, mens2, men2, men1, mens1_app, mens1_ints, mens1]) (by first | rfl | simp [d2, ds1_ints, ds1_app, ds1, d1, ds0_app, ds0_ints, ds0, d0]) rfl ?_
    refine O.move rfl rfl ?_
    refine O.extract rfl rfl rfl ?_
    refine O.extract rfl rfl rfl ?_
    refine O.alloc hE 11 T73 rfl rfl rfl ?_
    refine O.store hE T73 rfl rfl rfl rfl rfl rfl ?_
    refine O.assign rfl rfl ?_
    refine O.nil ?_
    try refine Run.keep [0, 1, 2, 4, 5, 7, 8, 9, 10, 11, 12, 14, 15, 25, 27, 28, 29, 30, 37, 46, 47, 48, 49, 60] rfl rfl ?_
    repeat (first | refine Run.seq ?_ | refine Run.skip ?_ | refine Run.block ?_)
    refine Run.region ?_
    refine O.move rfl rfl ?_
    first | refine O.cmp rfl rfl rfl (by first | exact decide_eq_true (by omega) | exact decide_eq_false (by omega)) rfl ?_ | refine O.cmp rfl rfl rfl rfl rfl ?_
    refine O.nil ?_
    try refine Run.keep [0, 1, 2, 4, 5, 7, 8, 9, 10, 11, 12, 14, 15, 25, 27, 28, 29, 30, 37, 46, 47, 48, 49, 60] rfl rfl ?_
    repeat (first | refine Run.seq ?_ | refine Run.skip ?_)
    first | refine Run.condT rfl rfl ?_ | refine Run.condF rfl rfl ?_ | refine Run.condT rfl (by assumption) ?_ | refine Run.condF rfl (by assumption) ?_
    repeat (first | refine Run.seq ?_ | refine Run.skip ?_ | refine Run.block ?_)
    refine Run.region ?_
    refine O.move rfl rfl ?_
    refine O.load hE T73 rfl rfl rfl rfl ?_
    refine O.indexA hE T91 rfl T73 rfl rfl (by omega) (by omega) rfl rfl rfl ?_
    refine O.store hE T73 rfl rfl rfl rfl rfl rfl ?_
    refine O.nil ?_
    try refine Run.keep [0, 1, 2, 4, 5, 7, 8, 9, 10, 11, 12, 14, 15, 25, 27, 28, 29, 30, 37, 46, 47, 48, 49, 60] rfl rfl ?_
    repeat (first | refine Run.seq ?_ | refine Run.skip ?_ | refine Run.block ?_)
    refine Run.region ?_
    first | refine O.ar rfl rfl rfl (by exact wrap_i64 (by omega) (by omega)) rfl ?_ | refine O.ar rfl rfl rfl rfl rfl ?_
    refine O.move rfl rfl ?_
    refine O.nil ?_
    try refine Run.keep [0, 1, 2, 4, 5, 7, 8, 9, 10, 11, 12, 14, 15, 25, 27, 28, 29, 30, 37, 46, 47, 48, 49, 60] rfl rfl ?_
    exact ih 2 _ (SLe.drop (by repeat (first | exact TmIn.nil | refine TmIn.cons rfl ?_)) (by repeat (first | exact BxIn.nil | refine BxIn.cons rfl ?_)) rfl rfl) (by omega) (by omega)
  ·
    repeat (first | refine Run.seq ?_ | refine Run.skip ?_ | refine Run.block ?_)
    refine Run.region ?_
    first | refine O.cmp rfl rfl rfl (by first | exact decide_eq_true (by omega) | exact decide_eq_false (by omega)) rfl ?_ | refine O.cmp rfl rfl rfl rfl rfl ?_
    refine O.nil ?_
    try refine Run.keep [0, 1, 2, 4, 5, 7, 8, 9, 10, 11, 12, 14, 15, 25, 27, 28, 29, 30, 37, 46, 47, 48, 49, 60] rfl rfl ?_
    repeat (first | refine Run.seq ?_ | refine Run.skip ?_)
    first | refine Run.condT rfl rfl ?_ | refine Run.condF rfl rfl ?_ | refine Run.condT rfl (by assumption) ?_ | refine Run.condF rfl (by assumption) ?_
    refine Run.exit ?_
    repeat (first | refine thenR_exit ?_ | refine roundR_exit ?_ | refine blockR_exit ?_ | refine blockR_pass rfl ?_)
    repeat (first | refine Run.seq ?_ | refine Run.skip ?_ | refine Run.block ?_)
    refine Run.region ?_
    refine O.field hE L28 rfl rfl rfl rfl ?_
    first | refine O.loadS hE T3 rfl rfl rfl (by rfl) rfl ?_ | refine O.loadE hE T3 rfl rfl (by rfl) rfl ?_ | refine O.load hE T3 rfl rfl rfl rfl ?_
    refine O.field hE L28 rfl rfl rfl rfl ?_
    first | refine O.loadS hE T26 rfl rfl rfl (by rfl) rfl ?_ | refine O.loadE hE T26 rfl rfl (by rfl) rfl ?_ | refine O.load hE T26 rfl rfl rfl rfl ?_
    first | refine O.lenN hE T26 rfl rfl rfl (by first | exact newest_pv | exact newest_gl rfl rfl | trivial) lenC rfl ?_ | refine O.lenLst hE T26 rfl rfl rfl (by first | exact newest_pv | exact newest_gl rfl rfl | trivial) rfl ?_
    refine O.load hE T91 rfl rfl rfl rfl ?_
    refine O.callE hj rfl (by first | rfl | simp [closed, men3, mens2_app, mens2_ints, mens2, men2, men1, mens1_app, mens1_ints, mens1]) (by first | rfl | simp [d2, ds1_ints, ds1_app, ds1, d1, ds0_app, ds0_ints, ds0, d0]) rfl ?_
    refine O.extract rfl rfl rfl ?_
    refine O.extract rfl rfl rfl ?_
    refine O.store hE T73 rfl rfl rfl rfl rfl rfl ?_
    refine O.assign rfl rfl ?_
    refine O.nil ?_
    try refine Run.keep [0, 1, 2, 4, 5, 7, 8, 9, 10, 11, 12, 14, 15, 25, 27, 28, 29, 30, 37, 46, 47, 48, 49, 60] rfl rfl ?_
    (repeat (first | refine Run.seq ?_ | refine Run.skip ?_)); (try refine Run.ret ?_); first | exact Ends.flat hE (.inr rfl) rfl rfl (AVle.of_eq rfl) rfl | exact Ends.flat hE (.inl rfl) rfl rfl (AVle.of_eq rfl) rfl
theorem fnOfLit {cs : List Kol} (v : Vl) : FnC (En Tryd.prog g) 35 [xA (.lit v), .pv (.lst 3 (cs.map kolE))] (.tup [srtA ⟨v.kd, decide (v.kd = 0)⟩, .pv (.int .i64 0)]) [] := by
  have hE := EnOk g
  obtain ⟨vk, vn, vb, vs⟩ := v
  dsimp only [xA, Xp.op, Xp.v, Xp.nm, Xp.as]
  refine FnC.of Tryd.func35 rfl rfl rfl rfl ?_
  repeat (first | refine Run.seq ?_ | refine Run.skip ?_ | refine Run.block ?_)
  refine Run.region ?_
  refine O.box 2 rfl (by first | rfl | exact cells_ones (by simp [ones_app, ones_ints, ones, AV.one, PV.one])) rfl rfl ?_
  refine O.alloc hE 4 T73 rfl rfl rfl ?_
  refine O.assign rfl rfl ?_
  refine O.nil ?_
  try refine Run.keep [0, 1, 2, 4, 5, 7, 8, 9, 10, 11, 12, 14, 15, 25, 27, 28, 29, 30, 37, 46, 47, 48, 49, 60] rfl rfl ?_
  repeat (first | refine Run.seq ?_ | refine Run.skip ?_ | refine Run.block ?_)
  refine Run.region ?_
  refine O.field hE L28 rfl rfl rfl rfl ?_
  first | refine O.loadS hE T3 rfl rfl rfl (by rfl) rfl ?_ | refine O.loadE hE T3 rfl rfl (by rfl) rfl ?_ | refine O.load hE T3 rfl rfl rfl rfl ?_
  refine O.nil ?_
  try refine Run.keep [0, 1, 2, 4, 5, 7, 8, 9, 10, 11, 12, 14, 15, 25, 27, 28, 29, 30, 37, 46, 47, 48, 49, 60] rfl rfl ?_
  repeat (first | refine Run.seq ?_ | refine Run.skip ?_ | refine Run.block ?_)
  refine Run.region ?_
  first | refine O.cmp rfl rfl rfl (by first | exact decide_eq_true (by omega) | exact decide_eq_false (by omega)) rfl ?_ | refine O.cmp rfl rfl rfl rfl rfl ?_
  refine O.assign rfl rfl ?_
  refine O.nil ?_
  try refine Run.keep [0, 1, 2, 4, 5, 7, 8, 9, 10, 11, 12, 14, 15, 25, 27, 28, 29, 30, 37, 46, 47, 48, 49, 60] rfl rfl ?_
  repeat (first | refine Run.seq ?_ | refine Run.skip ?_)
  first | refine Run.condT rfl rfl ?_ | refine Run.condF rfl rfl ?_ | refine Run.condT rfl (by assumption) ?_ | refine Run.condF rfl (by assumption) ?_
  repeat (first | refine Run.seq ?_ | refine Run.skip ?_ | refine Run.block ?_)
  refine Run.region ?_
  refine O.field hE L28 rfl rfl rfl rfl ?_
  refine O.field hE L25 rfl rfl rfl rfl ?_
  first | refine O.loadS hE T3 rfl rfl rfl (by rfl) rfl ?_ | refine O.loadE hE T3 rfl rfl (by rfl) rfl ?_ | refine O.load hE T3 rfl rfl rfl rfl ?_
  refine O.field hE L28 rfl rfl rfl rfl ?_
  refine O.field hE L25 rfl rfl rfl rfl ?_
  first | refine O.loadS hE T3 rfl rfl rfl (by rfl) rfl ?_ | refine O.loadE hE T3 rfl rfl (by rfl) rfl ?_ | refine O.load hE T3 rfl rfl rfl rfl ?_
  refine O.cmp rfl rfl rfl rfl rfl ?_
  refine O.build hE T73 L73 rfl rfl rfl ?_
  refine O.store hE T73 rfl rfl rfl rfl rfl rfl ?_
  refine O.assign rfl rfl ?_
  refine O.nil ?_
  try refine Run.keep [0, 1, 2, 4, 5, 7, 8, 9, 10, 11, 12, 14, 15, 25, 27, 28, 29, 30, 37, 46, 47, 48, 49, 60] rfl rfl ?_
  (repeat (first | refine Run.seq ?_ | refine Run.skip ?_)); (try refine Run.ret ?_); first | exact Ends.flat hE (.inr rfl) rfl rfl (AVle.of_eq rfl) rfl | exact Ends.flat hE (.inl rfl) rfl rfl (AVle.of_eq rfl) rfl
theorem fnOfCol {cs : List Kol} (hl : cs.length ≤ 5) {s : ByteArray} {c : Kol} (hf : findC cs s = some c) : FnC (En Tryd.prog g) 35 [xA (.col s), .pv (.lst 3 (cs.map kolE))] (.tup [srtA ⟨c.kd, c.nl⟩, .pv (.int .i64 0)]) [] := by
  have hE := EnOk g
  have hlm : (cs.map kolE).length = cs.length := by simp
  obtain ⟨ck, ckd, cnl⟩ := c
  dsimp only [xA, Xp.op, Xp.v, Xp.nm, Xp.as]
  refine FnC.of Tryd.func35 rfl rfl rfl rfl ?_
  repeat (first | refine Run.seq ?_ | refine Run.skip ?_ | refine Run.block ?_)
  refine Run.region ?_
  refine O.box 2 rfl (by first | rfl | exact cells_ones (by simp [ones_app, ones_ints, ones, AV.one, PV.one])) rfl rfl ?_
  refine O.alloc hE 4 T73 rfl rfl rfl ?_
  refine O.assign rfl rfl ?_
  refine O.nil ?_
  try refine Run.keep [0, 1, 2, 4, 5, 7, 8, 9, 10, 11, 12, 14, 15, 25, 27, 28, 29, 30, 37, 46, 47, 48, 49, 60] rfl rfl ?_
  repeat (first | refine Run.seq ?_ | refine Run.skip ?_ | refine Run.block ?_)
  refine Run.region ?_
  refine O.field hE L28 rfl rfl rfl rfl ?_
  first | refine O.loadS hE T3 rfl rfl rfl (by rfl) rfl ?_ | refine O.loadE hE T3 rfl rfl (by rfl) rfl ?_ | refine O.load hE T3 rfl rfl rfl rfl ?_
  refine O.nil ?_
  try refine Run.keep [0, 1, 2, 4, 5, 7, 8, 9, 10, 11, 12, 14, 15, 25, 27, 28, 29, 30, 37, 46, 47, 48, 49, 60] rfl rfl ?_
  repeat (first | refine Run.seq ?_ | refine Run.skip ?_ | refine Run.block ?_)
  refine Run.region ?_
  first | refine O.cmp rfl rfl rfl (by first | exact decide_eq_true (by omega) | exact decide_eq_false (by omega)) rfl ?_ | refine O.cmp rfl rfl rfl rfl rfl ?_
  refine O.assign rfl rfl ?_
  refine O.nil ?_
  try refine Run.keep [0, 1, 2, 4, 5, 7, 8, 9, 10, 11, 12, 14, 15, 25, 27, 28, 29, 30, 37, 46, 47, 48, 49, 60] rfl rfl ?_
  repeat (first | refine Run.seq ?_ | refine Run.skip ?_)
  first | refine Run.condT rfl rfl ?_ | refine Run.condF rfl rfl ?_ | refine Run.condT rfl (by assumption) ?_ | refine Run.condF rfl (by assumption) ?_
  repeat (first | refine Run.seq ?_ | refine Run.skip ?_ | refine Run.block ?_)
  refine Run.region ?_
  first | refine O.cmp rfl rfl rfl (by first | exact decide_eq_true (by omega) | exact decide_eq_false (by omega)) rfl ?_ | refine O.cmp rfl rfl rfl rfl rfl ?_
  refine O.assign rfl rfl ?_
  refine O.nil ?_
  try refine Run.keep [0, 1, 2, 4, 5, 7, 8, 9, 10, 11, 12, 14, 15, 25, 27, 28, 29, 30, 37, 46, 47, 48, 49, 60] rfl rfl ?_
  repeat (first | refine Run.seq ?_ | refine Run.skip ?_)
  first | refine Run.condT rfl rfl ?_ | refine Run.condF rfl rfl ?_ | refine Run.condT rfl (by assumption) ?_ | refine Run.condF rfl (by assumption) ?_
  repeat (first | refine Run.seq ?_ | refine Run.skip ?_ | refine Run.block ?_)
  refine Run.region ?_
  refine O.move rfl rfl ?_
  first | refine O.lenN hE T29 rfl rfl rfl (by first | exact newest_pv | exact newest_gl rfl rfl | trivial) lenC rfl ?_ | refine O.lenLst hE T29 rfl rfl rfl (by first | exact newest_pv | exact newest_gl rfl rfl | trivial) rfl ?_
  refine O.move rfl rfl ?_
  refine O.nil ?_
  try refine Run.keep [0, 1, 2, 4, 5, 7, 8, 9, 10, 11, 12, 14, 15, 25, 27, 28, 29, 30, 37, 46, 47, 48, 49, 60] rfl rfl ?_
  repeat (first | refine Run.seq ?_ | refine Run.skip ?_)
  refine Run.block ?_
  refine Run.loopInv (ι := Nat) (fun j => j ≤ cs.length ∧ findC (cs.drop j) s = some ⟨ck, ckd, cnl⟩)
    (fun j => ⟨76, [(2, .ptr 2 0), (4, .ptr 4 0), (27, .pv (.lst 3 (cs.map kolE))), (28, .pv (.int .i64 cs.length)), (29, .pv (.int .i64 j))], [(4, .var [.pv (.int .i64 0), .pv (.bool false)]), (2, .var [.pv (.int .i64 2), .pv (.int .i64 0), .pv (.int .i64 0), .pv (.int .u64 0), .pv (.str noS), .pv (.str s), .pv (.lst 7 [])])]⟩) (fun j => cs.length - j) 0 ⟨by omega, by simpa using hf⟩ ?_ ?_
  ·
    exact SLe.drop (by repeat (first | exact TmIn.nil | refine TmIn.cons rfl ?_)) (by repeat (first | exact BxIn.nil | refine BxIn.cons rfl ?_)) rfl rfl
  rintro j ⟨hj, hfj⟩ ih
  have hlt : j < cs.length := by
    rcases Nat.lt_or_ge j cs.length with h | h
    · exact h
    · rw [List.drop_eq_nil_of_le h] at hfj; simp [findC] at hfj
  obtain ⟨d, hd⟩ : ∃ d, cs[j]? = some d := ⟨_, List.getElem?_eq_getElem hlt⟩
  have hat := kol_at hd
  have hdr : cs.drop j = d :: cs.drop (j + 1) := by
    rw [List.drop_eq_getElem_cons hlt]
    congr 1
    have := List.getElem?_eq_getElem hlt
    rw [hd] at this
    exact (Option.some.inj this).symm
  rw [hdr] at hfj
  obtain ⟨dk, dkd, dnl⟩ := d
  dsimp only [kolE] at hat
  by_cases hq : (dk.toList == s.toList) = true
  ·
    have he : (⟨dk, dkd, dnl⟩ : Kol) = ⟨ck, ckd, cnl⟩ := by
      unfold findC at hfj
      rw [List.find?_cons_of_pos (by simpa using hq)] at hfj
      exact Option.some.inj hfj
    cases he
    repeat (first | refine Run.seq ?_ | refine Run.skip ?_ | refine Run.block ?_)
    refine Run.region ?_
    first | refine O.cmp rfl rfl rfl (by first | exact decide_eq_true (by omega) | exact decide_eq_false (by omega)) rfl ?_ | refine O.cmp rfl rfl rfl rfl rfl ?_
    refine O.nil ?_
    try refine Run.keep [0, 1, 2, 4, 5, 7, 8, 9, 10, 11, 12, 14, 15, 25, 27, 28, 29, 30, 37, 46, 47, 48, 49, 60] rfl rfl ?_
    repeat (first | refine Run.seq ?_ | refine Run.skip ?_)
    first | refine Run.condT rfl rfl ?_ | refine Run.condF rfl rfl ?_ | refine Run.condT rfl (by assumption) ?_ | refine Run.condF rfl (by assumption) ?_
    repeat (first | refine Run.seq ?_ | refine Run.skip ?_ | refine Run.block ?_)
    refine Run.region ?_
    refine O.index hE T29 rfl T37 rfl rfl (by first | exact newest_pv | exact newest_gl rfl rfl | trivial) rfl (by omega) (by first | assumption | rfl) rfl rfl rfl ?_
    refine O.load hE T37 rfl rfl rfl rfl ?_
    refine O.alloc hE 7 T37 rfl rfl rfl ?_
    refine O.store hE T37 rfl rfl rfl rfl rfl rfl ?_
    refine O.nil ?_
    try refine Run.keep [0, 1, 2, 4, 5, 7, 8, 9, 10, 11, 12, 14, 15, 25, 27, 28, 29, 30, 37, 46, 47, 48, 49, 60] rfl rfl ?_
    repeat (first | refine Run.seq ?_ | refine Run.skip ?_ | refine Run.block ?_)
    refine Run.region ?_
    refine O.field hE L37 rfl rfl rfl rfl ?_
    first | refine O.loadS hE T9 rfl rfl rfl (by rfl) rfl ?_ | refine O.loadE hE T9 rfl rfl (by rfl) rfl ?_ | refine O.load hE T9 rfl rfl rfl rfl ?_
    refine O.field hE L28 rfl rfl rfl rfl ?_
    first | refine O.loadS hE T9 rfl rfl rfl (by rfl) rfl ?_ | refine O.loadE hE T9 rfl rfl (by rfl) rfl ?_ | refine O.load hE T9 rfl rfl rfl rfl ?_
    refine O.strEqK rfl rfl hq rfl ?_
    refine O.nil ?_
    try refine Run.keep [0, 1, 2, 4, 5, 7, 8, 9, 10, 11, 12, 14, 15, 25, 27, 28, 29, 30, 37, 46, 47, 48, 49, 60] rfl rfl ?_
    repeat (first | refine Run.seq ?_ | refine Run.skip ?_)
    first | refine Run.condT rfl rfl ?_ | refine Run.condF rfl rfl ?_ | refine Run.condT rfl (by assumption) ?_ | refine Run.condF rfl (by assumption) ?_
    repeat (first | refine Run.seq ?_ | refine Run.skip ?_ | refine Run.block ?_)
    refine Run.region ?_
    refine O.field hE L37 rfl rfl rfl rfl ?_
    first | refine O.loadS hE T3 rfl rfl rfl (by rfl) rfl ?_ | refine O.loadE hE T3 rfl rfl (by rfl) rfl ?_ | refine O.load hE T3 rfl rfl rfl rfl ?_
    refine O.field hE L37 rfl rfl rfl rfl ?_
    first | refine O.loadS hE T4 rfl rfl rfl (by rfl) rfl ?_ | refine O.loadE hE T4 rfl rfl (by rfl) rfl ?_ | refine O.load hE T4 rfl rfl rfl rfl ?_
    refine O.build hE T73 L73 rfl rfl rfl ?_
    refine O.store hE T73 rfl rfl rfl rfl rfl rfl ?_
    refine O.assign rfl rfl ?_
    refine O.nil ?_
    try refine Run.keep [0, 1, 2, 4, 5, 7, 8, 9, 10, 11, 12, 14, 15, 25, 27, 28, 29, 30, 37, 46, 47, 48, 49, 60] rfl rfl ?_
    refine Run.ret ?_
    repeat (first | refine thenR_ret ?_ | refine roundR_ret ?_ | refine blockR_ret ?_)
    exact Ends.of hE (.inr rfl) rfl rfl (SLe.drop (by repeat (first | exact TmIn.nil | refine TmIn.cons rfl ?_)) (by repeat (first | exact BxIn.nil | refine BxIn.cons rfl ?_)) rfl rfl)
  ·
    have hq' : (dk.toList == s.toList) = false := by simpa using hq
    have hf2 : findC (cs.drop (j + 1)) s = some ⟨ck, ckd, cnl⟩ := by
      unfold findC at hfj ⊢
      rw [List.find?_cons_of_neg (by simpa using hq)] at hfj
      exact hfj
    repeat (first | refine Run.seq ?_ | refine Run.skip ?_ | refine Run.block ?_)
    refine Run.region ?_
    first | refine O.cmp rfl rfl rfl (by first | exact decide_eq_true (by omega) | exact decide_eq_false (by omega)) rfl ?_ | refine O.cmp rfl rfl rfl rfl rfl ?_
    refine O.nil ?_
    try refine Run.keep [0, 1, 2, 4, 5, 7, 8, 9, 10, 11, 12, 14, 15, 25, 27, 28, 29, 30, 37, 46, 47, 48, 49, 60] rfl rfl ?_
    repeat (first | refine Run.seq ?_ | refine Run.skip ?_)
    first | refine Run.condT rfl rfl ?_ | refine Run.condF rfl rfl ?_ | refine Run.condT rfl (by assumption) ?_ | refine Run.condF rfl (by assumption) ?_
    repeat (first | refine Run.seq ?_ | refine Run.skip ?_ | refine Run.block ?_)
    refine Run.region ?_
    refine O.index hE T29 rfl T37 rfl rfl (by first | exact newest_pv | exact newest_gl rfl rfl | trivial) rfl (by omega) (by first | assumption | rfl) rfl rfl rfl ?_
    refine O.load hE T37 rfl rfl rfl rfl ?_
    refine O.alloc hE 7 T37 rfl rfl rfl ?_
    refine O.store hE T37 rfl rfl rfl rfl rfl rfl ?_
    refine O.nil ?_
    try refine Run.keep [0, 1, 2, 4, 5, 7, 8, 9, 10, 11, 12, 14, 15, 25, 27, 28, 29, 30, 37, 46, 47, 48, 49, 60] rfl rfl ?_
    repeat (first | refine Run.seq ?_ | refine Run.skip ?_ | refine Run.block ?_)
    refine Run.region ?_
    refine O.field hE L37 rfl rfl rfl rfl ?_
    first | refine O.loadS hE T9 rfl rfl rfl (by rfl) rfl ?_ | refine O.loadE hE T9 rfl rfl (by rfl) rfl ?_ | refine O.load hE T9 rfl rfl rfl rfl ?_
    refine O.field hE L28 rfl rfl rfl rfl ?_
    first | refine O.loadS hE T9 rfl rfl rfl (by rfl) rfl ?_ | refine O.loadE hE T9 rfl rfl (by rfl) rfl ?_ | refine O.load hE T9 rfl rfl rfl rfl ?_
    refine O.strEqK rfl rfl hq' rfl ?_
    refine O.nil ?_
    try refine Run.keep [0, 1, 2, 4, 5, 7, 8, 9, 10, 11, 12, 14, 15, 25, 27, 28, 29, 30, 37, 46, 47, 48, 49, 60] rfl rfl ?_
    repeat (first | refine Run.seq ?_ | refine Run.skip ?_)
    first | refine Run.condT rfl rfl ?_ | refine Run.condF rfl rfl ?_ | refine Run.condT rfl (by assumption) ?_ | refine Run.condF rfl (by assumption) ?_
    repeat (first | refine Run.seq ?_ | refine Run.skip ?_ | refine Run.block ?_)
    refine Run.region ?_
    first | refine O.ar rfl rfl rfl (by exact wrap_i64 (by omega) (by omega)) rfl ?_ | refine O.ar rfl rfl rfl rfl rfl ?_
    refine O.move rfl rfl ?_
    refine O.nil ?_
    try refine Run.keep [0, 1, 2, 4, 5, 7, 8, 9, 10, 11, 12, 14, 15, 25, 27, 28, 29, 30, 37, 46, 47, 48, 49, 60] rfl rfl ?_
    refine ih (j + 1) _ ?_ ⟨by omega, hf2⟩ (by omega)
    exact SLe.drop (by repeat (first | exact TmIn.nil | refine TmIn.cons rfl ?_)) (by repeat (first | exact BxIn.nil | refine BxIn.cons rfl ?_)) rfl rfl
theorem fnOf {cs : List Kol} (hl : cs.length ≤ 5) {k : Int} {x : Xp} (h : Ty cs k x) : FnC (En Tryd.prog g) 35 [xA x, .pv (.lst 3 (cs.map kolE))] (.tup [srtA (kindP cs x), .pv (.int .i64 0)]) [] := by
  induction h with
  | @lit k v hv hn hk => exact fnOfLit v
  | @col c hf hn =>
    have := fnOfCol (g := g) hl hf
    rw [show kindP cs (.col c.nm) = ⟨c.kd, c.nl⟩ by simp only [kindP, hf]]
    exact this
  | @un op k ka a h ha ih =>
    rw [kindP_un]
    exact fnOf1 (by unfold UnTy at h; omega) ih (fnJoin1 h ha.kind)
  | @bi op k ka a b h ha hb ia ib =>
    rw [kindP_bi]
    exact fnOf2 (by unfold BiTy at h; omega) ia ib (fnJoin2 h ha.kind hb.kind)
theorem fnKOf (hV : VStr g) {cs : List Kol} (hc : ColsOk cs) {k : Int} {x : Xp} (h : Ty cs k x) (hd : x.dp ≤ 7) (hs : x.sz ≤ 40) : FnC (En Tryd.prog g) 14 [xA x, .pv (.lst 3 (cs.map kolE))] (.tup [.pv (.int .i64 (kindP cs x).kd), .pv (.bool (kindP cs x).nl), .pv (.int .i64 0)]) [] := by
  have hE := EnOk g
  have c1 := fnXCheck hV h.wf hd hs
  have c2 := fnColumns (g := g) hc
  have c3 := fnOf (g := g) hc.len h
  clear h
  generalize kindP cs x = r at *
  obtain ⟨rk, rn⟩ := r
  dsimp only at c3 ⊢
  refine FnC.of Tryd.func14 rfl rfl rfl rfl ?_
  repeat (first | refine Run.seq ?_ | refine Run.skip ?_ | refine Run.block ?_)
  refine Run.region ?_
  refine O.box 2 rfl (by first | rfl | exact cells_ones (by simp [ones_app, ones_ints, ones, AV.one, PV.one])) rfl rfl ?_
  refine O.assign rfl rfl ?_
  refine O.assign rfl rfl ?_
  refine O.assign rfl rfl ?_
  refine O.nil ?_
  try refine Run.keep [0, 1, 2, 4, 5, 6, 7, 8, 9, 13, 18, 27] rfl rfl ?_
  repeat (first | refine Run.seq ?_ | refine Run.skip ?_ | refine Run.block ?_)
  refine Run.region ?_
  refine O.load hE T28 rfl rfl rfl rfl ?_
  refine O.callE c1 rfl (by first | rfl | simp [closed, men3, mens2_app, mens2_ints, mens2, men2, men1, mens1_app, mens1_ints, mens1]) (by first | rfl | simp [d2, ds1_ints, ds1_app, ds1, d1, ds0_app, ds0_ints, ds0, d0]) rfl ?_
  refine O.assign rfl rfl ?_
  refine O.nil ?_
  try refine Run.keep [0, 1, 2, 4, 5, 6, 7, 8, 9, 13, 18, 27] rfl rfl ?_
  repeat (first | refine Run.seq ?_ | refine Run.skip ?_ | refine Run.block ?_)
  refine Run.region ?_
  refine O.move rfl rfl ?_
  first | refine O.cmp rfl rfl rfl (by first | exact decide_eq_true (by omega) | exact decide_eq_false (by omega)) rfl ?_ | refine O.cmp rfl rfl rfl rfl rfl ?_
  refine O.nil ?_
  try refine Run.keep [0, 1, 2, 4, 5, 6, 7, 8, 9, 13, 18, 27] rfl rfl ?_
  repeat (first | refine Run.seq ?_ | refine Run.skip ?_)
  first | refine Run.condT rfl rfl ?_ | refine Run.condF rfl rfl ?_ | refine Run.condT rfl (by assumption) ?_ | refine Run.condF rfl (by assumption) ?_
  repeat (first | refine Run.seq ?_ | refine Run.skip ?_ | refine Run.block ?_)
  refine Run.region ?_
  refine O.move rfl rfl ?_
  refine O.callE c2 rfl (by first | rfl | simp [closed, men3, mens2_app, mens2_ints, mens2, men2, men1, mens1_app, mens1_ints, mens1]) (by first | rfl | simp [d2, ds1_ints, ds1_app, ds1, d1, ds0_app, ds0_ints, ds0, d0]) rfl ?_
  refine O.assign rfl rfl ?_
  refine O.nil ?_
  try refine Run.keep [0, 1, 2, 4, 5, 6, 7, 8, 9, 13, 18, 27] rfl rfl ?_
  repeat (first | refine Run.seq ?_ | refine Run.skip ?_ | refine Run.block ?_)
  refine Run.region ?_
  refine O.move rfl rfl ?_
  first | refine O.cmp rfl rfl rfl (by first | exact decide_eq_true (by omega) | exact decide_eq_false (by omega)) rfl ?_ | refine O.cmp rfl rfl rfl rfl rfl ?_
  refine O.nil ?_
  try refine Run.keep [0, 1, 2, 4, 5, 6, 7, 8, 9, 13, 18, 27] rfl rfl ?_
  repeat (first | refine Run.seq ?_ | refine Run.skip ?_)
  first | refine Run.condT rfl rfl ?_ | refine Run.condF rfl rfl ?_ | refine Run.condT rfl (by assumption) ?_ | refine Run.condF rfl (by assumption) ?_
  repeat (first | refine Run.seq ?_ | refine Run.skip ?_ | refine Run.block ?_)
  refine Run.region ?_
  refine O.load hE T28 rfl rfl rfl rfl ?_
  refine O.move rfl rfl ?_
  refine O.callE c3 rfl (by first | rfl | simp [closed, men3, mens2_app, mens2_ints, mens2, men2, men1, mens1_app, mens1_ints, mens1]) (by first | rfl | simp [d2, ds1_ints, ds1_app, ds1, d1, ds0_app, ds0_ints, ds0, d0]) rfl ?_
  refine O.move rfl rfl ?_
  refine O.extract rfl rfl rfl ?_
  refine O.extract rfl rfl rfl ?_
  refine O.alloc hE 9 T73 rfl rfl rfl ?_
  refine O.store hE T73 rfl rfl rfl rfl rfl rfl ?_
  refine O.assign rfl rfl ?_
  refine O.nil ?_
  try refine Run.keep [0, 1, 2, 4, 5, 6, 7, 8, 9, 13, 18, 27] rfl rfl ?_
  repeat (first | refine Run.seq ?_ | refine Run.skip ?_ | refine Run.block ?_)
  refine Run.region ?_
  refine O.move rfl rfl ?_
  first | refine O.cmp rfl rfl rfl (by first | exact decide_eq_true (by omega) | exact decide_eq_false (by omega)) rfl ?_ | refine O.cmp rfl rfl rfl rfl rfl ?_
  refine O.nil ?_
  try refine Run.keep [0, 1, 2, 4, 5, 6, 7, 8, 9, 13, 18, 27] rfl rfl ?_
  repeat (first | refine Run.seq ?_ | refine Run.skip ?_)
  first | refine Run.condT rfl rfl ?_ | refine Run.condF rfl rfl ?_ | refine Run.condT rfl (by assumption) ?_ | refine Run.condF rfl (by assumption) ?_
  repeat (first | refine Run.seq ?_ | refine Run.skip ?_ | refine Run.block ?_)
  refine Run.draw mixed rfl ?_
  refine D.field hE L73 rfl rfl rfl rfl ?_
  first | refine D.loadS hE T3 rfl rfl rfl (by rfl) rfl ?_ | refine D.loadE hE T3 rfl rfl (by rfl) rfl ?_ | refine D.load hE T3 rfl rfl rfl rfl ?_
  refine D.field hE L73 rfl rfl rfl rfl ?_
  first | refine D.loadS hE T4 rfl rfl rfl (by rfl) rfl ?_ | refine D.loadE hE T4 rfl rfl (by rfl) rfl ?_ | refine D.load hE T4 rfl rfl rfl rfl ?_
  refine D.assign rfl rfl ?_
  refine D.assign rfl rfl ?_
  refine D.assign rfl rfl ?_
  refine Dr.nil ?_
  refine ⟨rfl, ?_⟩
  try refine Run.keep [0, 1, 2, 4, 5, 6, 7, 8, 9, 13, 18, 27] rfl rfl ?_
  (repeat (first | refine Run.seq ?_ | refine Run.skip ?_)); (try refine Run.ret ?_); first | exact Ends.flat hE (.inr rfl) rfl rfl (AVle.of_eq rfl) rfl | exact Ends.flat hE (.inl rfl) rfl rfl (AVle.of_eq rfl) rfl
end Go.Proofs.YtdigejpgjnhclaaDoor.Vm
