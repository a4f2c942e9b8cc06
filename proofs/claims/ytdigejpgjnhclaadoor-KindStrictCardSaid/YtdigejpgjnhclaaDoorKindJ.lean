/- A heap's first expression, its columns; a column that is missing. Conditions: what utf8.ValidString answers. -/
import Derived.Test.YtdigejpgjnhclaaDoorKindI
import Derived.Test.YtdigejpgjnhclaaDoorLoose
namespace Go.Proofs.YtdigejpgjnhclaaDoor.Vm
open Go Go.RowKit Go.Lib
set_option linter.unusedVariables false
set_option linter.unusedSimpArgs false
attribute [local irreducible] Ops Dr Run
variable {g : Nat → Option (List PV)}
/-- The columns that a heap has. -/
def colsH (rs : List Rw) : List Kol := colsP (rs.take ((rs.length : Int) % 4).toNat)
theorem exprOf_ex {rs : List Rw} (hl : (rs.length : Int) ≤ 9223372036854775807) (hr : ∀ r ∈ rs, RwOk r) (kd : Int) : ∃ (x : Xp) (m' : Int), (0 ≤ m' ∧ m' ≤ 100 ∧ Ty (colsH rs) (1 + kd % 4) x ∧ x.dp ≤ 4) ∧
    FnC (En Tryd.prog g) 13 [.pv (.lst 4 (rs.map rawE)), .pv (.int .i64 kd)] (.tup [xA x, .pv (.lst 3 ((colsH rs).map kolE)), .ptr 200 0]) [(200, hpV (rs.take 40) m' (colsH rs))] := by
  have hE := EnOk g
  have c1 := fnHeapOf (g := g) hl
  rw [show colsP (rs.take ((rs.length : Int) % 4).toNat) = colsH rs from rfl] at c1
  have hcs : ColsOk (colsH rs) := colsP_ok _
  have hR : (rs.take 40).length ≤ 40 := by rw [List.length_take]; omega
  have hRr : ∀ r ∈ rs.take 40, RwOk r := fun r h => hr r (List.mem_of_mem_take h)
  have c2 := fnPick (g := g) (a := kd) (m := 4) (by omega) (by omega)
  have hk : 0 ≤ kd % 4 ∧ kd % 4 < 4 := by omega
  generalize kd % 4 = z at *
  obtain ⟨x, m', ⟨a1, a2, a3, a4⟩, cx⟩ := expr_ex (g := g) (rs := rs.take 40) hR hRr hcs 4 4 (by omega) (by omega) (by omega) (1 + z) (by omega) (by omega) 0 (by omega) (by decide)
  refine ⟨x, m', ⟨a1, by have : (2 : Nat) ^ 4 = 16 := rfl; omega, a3, a4⟩, ?_⟩
  clear a3
  generalize rs.take 40 = R at *
  generalize colsH rs = cs at *
  refine FnC.of Tryd.func13 rfl rfl rfl rfl ?_
  repeat (first | refine Run.seq ?_ | refine Run.skip ?_ | refine Run.block ?_)
  refine Run.region ?_
  refine O.alloc hE 4 T28 rfl rfl rfl ?_
  refine O.assign rfl rfl ?_
  refine O.assignN rfl ?_
  refine O.nil ?_
  try refine Run.keep [0, 1, 4, 5, 6, 7] rfl rfl ?_
  repeat (first | refine Run.seq ?_ | refine Run.skip ?_ | refine Run.block ?_)
  refine Run.region ?_
  refine O.move rfl rfl ?_
  refine O.call (bs' := []) 0 c1 (.cons (AVle.of_eq rfl) .nil) rfl rfl rfl rfl rfl rfl rfl ?_
  refine O.assign rfl rfl ?_
  refine O.nil ?_
  try refine Run.keep [0, 1, 4, 5, 6, 7] rfl rfl ?_
  repeat (first | refine Run.seq ?_ | refine Run.skip ?_ | refine Run.block ?_)
  refine Run.drawI (Inv := CellIs 200 2 (.pv (.lst 3 (cs.map kolE)))) mixed rfl ⟨_, rfl, rfl⟩ ?_
  refine DrI.step ?_
  refine D.move rfl rfl ?_
  refine Dr.nil ?_
  refine DrI.step ?_
  refine D.move rfl rfl ?_
  refine Dr.nil ?_
  refine DrI.step ?_
  refine D.callE c2 rfl rfl rfl rfl ?_
  refine Dr.nil ?_
  refine DrI.step ?_
  refine D.ar rfl rfl rfl (by exact wrap_i64 (by omega) (by omega)) rfl ?_
  refine Dr.nil ?_
  refine DrI.step ?_
  refine D.lendL (ln := [200]) cx rfl (men_a3 rfl rfl rfl) (by repeat (first | exact BxIn.nil | refine BxIn.cons rfl ?_)) rfl (fun p hp => by rw [List.mem_singleton.1 hp]; rfl) rfl rfl rfl rfl rfl rfl rfl rfl ?_
  refine Dr.nil ?_
  refine DrI.step ?_
  refine D.move rfl rfl ?_
  refine Dr.nil ?_
  refine DrI.step ?_
  refine D.nilK rfl rfl ?_
  refine Dr.nil ?_
  refine DrI.step ?_
  refine D.field hE L60 rfl rfl rfl rfl ?_
  refine Dr.nil ?_
  refine DrI.loadC hE T29 rfl rfl rfl ?_
  refine DrI.step ?_
  refine D.move rfl rfl ?_
  refine Dr.nil ?_
  refine DrI.step ?_
  refine D.store hE T28 rfl rfl rfl rfl rfl rfl ?_
  refine Dr.nil ?_
  refine DrI.step ?_
  refine D.assign rfl rfl ?_
  refine Dr.nil ?_
  refine DrI.step ?_
  refine D.assign rfl rfl ?_
  refine Dr.nil ?_
  refine DrI.nil ?_
  refine ⟨rfl, ?_, ?_⟩
  · repeat (first | exact List.forall_mem_nil _ | refine List.forall_mem_cons.2 ⟨cellIs_app (by first | exact .inl rfl | exact .inr ⟨_, rfl, rfl⟩), ?_⟩)
  refine Run.ret ?_
  exact Ends.of hE (.inr rfl) rfl rfl (SLe.drop (by repeat (first | exact TmIn.nil | refine TmIn.cons rfl ?_)) (by repeat (first | exact BxIn.nil | refine BxIn.cons rfl ?_)) rfl rfl)
theorem fnOfNone {cs : List Kol} (hl : cs.length ≤ 5) {s : ByteArray} (hf : findC cs s = none) : FnC (En Tryd.prog g) 35 [xA (.col s), .pv (.lst 3 (cs.map kolE))] (.tup [srtA ⟨0, false⟩, .pv (.int .i64 5)]) [] := by
  have hE := EnOk g
  have hlm : (cs.map kolE).length = cs.length := by simp
  dsimp only [xA, Xp.op, Xp.v, Xp.nm, Xp.as]
  refine FnC.of Tryd.func35 rfl rfl rfl rfl ?_
  repeat (first | refine Run.seq ?_ | refine Run.skip ?_ | refine Run.block ?_)
  refine Run.region ?_
  refine O.box 2 rfl (by first | rfl | exact cells_ones (by simp [ones_app, ones_ints, ones, AV.one, PV.one])) rfl rfl ?_
  refine O.alloc hE 4 T73 rfl rfl rfl ?_
  refine O.assign rfl rfl ?_
  refine O.nil ?_
  try refine Run.keep [0, 1, 2, 4, 5, 7, 8, 9, 10, 11, 12, 14, 15, 25, 27, 28, 29, 30, 37, 46, 47, 48, 49, 60] rfl rfl ?_
  repeat (first | refine Run.seq ?_ | refine Run.skip ?_ | refine Run.block ?_)
  refine Run.region ?_
  refine O.field hE L28 rfl rfl rfl rfl ?_
  first | refine O.loadS hE T3 rfl rfl rfl (by rfl) rfl ?_ | refine O.loadE hE T3 rfl rfl (by rfl) rfl ?_ | refine O.load hE T3 rfl rfl rfl rfl ?_
  refine O.nil ?_
  try refine Run.keep [0, 1, 2, 4, 5, 7, 8, 9, 10, 11, 12, 14, 15, 25, 27, 28, 29, 30, 37, 46, 47, 48, 49, 60] rfl rfl ?_
  repeat (first | refine Run.seq ?_ | refine Run.skip ?_ | refine Run.block ?_)
  refine Run.region ?_
  first | refine O.cmp rfl rfl rfl (by first | exact decide_eq_true (by omega) | exact decide_eq_false (by omega)) rfl ?_ | refine O.cmp rfl rfl rfl rfl rfl ?_
  refine O.assign rfl rfl ?_
  refine O.nil ?_
  try refine Run.keep [0, 1, 2, 4, 5, 7, 8, 9, 10, 11, 12, 14, 15, 25, 27, 28, 29, 30, 37, 46, 47, 48, 49, 60] rfl rfl ?_
  repeat (first | refine Run.seq ?_ | refine Run.skip ?_)
  first | refine Run.condT rfl rfl ?_ | refine Run.condF rfl rfl ?_ | refine Run.condT rfl (by assumption) ?_ | refine Run.condF rfl (by assumption) ?_
  repeat (first | refine Run.seq ?_ | refine Run.skip ?_ | refine Run.block ?_)
  refine Run.region ?_
  first | refine O.cmp rfl rfl rfl (by first | exact decide_eq_true (by omega) | exact decide_eq_false (by omega)) rfl ?_ | refine O.cmp rfl rfl rfl rfl rfl ?_
  refine O.assign rfl rfl ?_
  refine O.nil ?_
  try refine Run.keep [0, 1, 2, 4, 5, 7, 8, 9, 10, 11, 12, 14, 15, 25, 27, 28, 29, 30, 37, 46, 47, 48, 49, 60] rfl rfl ?_
  repeat (first | refine Run.seq ?_ | refine Run.skip ?_)
  first | refine Run.condT rfl rfl ?_ | refine Run.condF rfl rfl ?_ | refine Run.condT rfl (by assumption) ?_ | refine Run.condF rfl (by assumption) ?_
  repeat (first | refine Run.seq ?_ | refine Run.skip ?_ | refine Run.block ?_)
  refine Run.region ?_
  refine O.move rfl rfl ?_
  first | refine O.lenN hE T29 rfl rfl rfl (by first | exact newest_pv | exact newest_gl rfl rfl | trivial) lenC rfl ?_ | refine O.lenLst hE T29 rfl rfl rfl (by first | exact newest_pv | exact newest_gl rfl rfl | trivial) rfl ?_
  refine O.move rfl rfl ?_
  refine O.nil ?_
  try refine Run.keep [0, 1, 2, 4, 5, 7, 8, 9, 10, 11, 12, 14, 15, 25, 27, 28, 29, 30, 37, 46, 47, 48, 49, 60] rfl rfl ?_
  repeat (first | refine Run.seq ?_ | refine Run.skip ?_)
  refine Run.block ?_
  refine Run.loopInv (ι := Nat) (fun j => j ≤ cs.length)
    (fun j => ⟨76, [(2, .ptr 2 0), (4, .ptr 4 0), (27, .pv (.lst 3 (cs.map kolE))), (28, .pv (.int .i64 cs.length)), (29, .pv (.int .i64 j))], [(4, .var [.pv (.int .i64 0), .pv (.bool false)]), (2, .var [.pv (.int .i64 2), .pv (.int .i64 0), .pv (.int .i64 0), .pv (.int .u64 0), .pv (.str noS), .pv (.str s), .pv (.lst 7 [])])]⟩) (fun j => cs.length - j) 0 (by omega) ?_ ?_
  ·
    exact SLe.drop (by repeat (first | exact TmIn.nil | refine TmIn.cons rfl ?_)) (by repeat (first | exact BxIn.nil | refine BxIn.cons rfl ?_)) rfl rfl
  rintro j hj ih
  by_cases hlt : j < cs.length
  ·
    obtain ⟨d, hd⟩ : ∃ d, cs[j]? = some d := ⟨_, List.getElem?_eq_getElem hlt⟩
    have hat := kol_at hd
    have hq' : (d.nm.toList == s.toList) = false := by
      unfold findC at hf
      have := List.find?_eq_none.1 hf d (List.mem_of_getElem? hd)
      simpa using this
    obtain ⟨dk, dkd, dnl⟩ := d
    dsimp only [kolE] at hat
    dsimp only at hq'
    repeat (first | refine Run.seq ?_ | refine Run.skip ?_ | refine Run.block ?_)
    refine Run.region ?_
    first | refine O.cmp rfl rfl rfl (by first | exact decide_eq_true (by omega) | exact decide_eq_false (by omega)) rfl ?_ | refine O.cmp rfl rfl rfl rfl rfl ?_
    refine O.nil ?_
    try refine Run.keep [0, 1, 2, 4, 5, 7, 8, 9, 10, 11, 12, 14, 15, 25, 27, 28, 29, 30, 37, 46, 47, 48, 49, 60] rfl rfl ?_
    repeat (first | refine Run.seq ?_ | refine Run.skip ?_)
    first | refine Run.condT rfl rfl ?_ | refine Run.condF rfl rfl ?_ | refine Run.condT rfl (by assumption) ?_ | refine Run.condF rfl (by assumption) ?_
    repeat (first | refine Run.seq ?_ | refine Run.skip ?_ | refine Run.block ?_)
    refine Run.region ?_
    refine O.index hE T29 rfl T37 rfl rfl (by first | exact newest_pv | exact newest_gl rfl rfl | trivial) rfl (by omega) (by first | assumption | rfl) rfl rfl rfl ?_
    refine O.load hE T37 rfl rfl rfl rfl ?_
    refine O.alloc hE 7 T37 rfl rfl rfl ?_
    refine O.store hE T37 rfl rfl rfl rfl rfl rfl ?_
    refine O.nil ?_
    try refine Run.keep [0, 1, 2, 4, 5, 7, 8, 9, 10, 11, 12, 14, 15, 25, 27, 28, 29, 30, 37, 46, 47, 48, 49, 60] rfl rfl ?_
    repeat (first | refine Run.seq ?_ | refine Run.skip ?_ | refine Run.block ?_)
    refine Run.region ?_
    refine O.field hE L37 rfl rfl rfl rfl ?_
    first | refine O.loadS hE T9 rfl rfl rfl (by rfl) rfl ?_ | refine O.loadE hE T9 rfl rfl (by rfl) rfl ?_ | refine O.load hE T9 rfl rfl rfl rfl ?_
    refine O.field hE L28 rfl rfl rfl rfl ?_
    first | refine O.loadS hE T9 rfl rfl rfl (by rfl) rfl ?_ | refine O.loadE hE T9 rfl rfl (by rfl) rfl ?_ | refine O.load hE T9 rfl rfl rfl rfl ?_
    refine O.strEqK rfl rfl hq' rfl ?_
    refine O.nil ?_
    try refine Run.keep [0, 1, 2, 4, 5, 7, 8, 9, 10, 11, 12, 14, 15, 25, 27, 28, 29, 30, 37, 46, 47, 48, 49, 60] rfl rfl ?_
    repeat (first | refine Run.seq ?_ | refine Run.skip ?_)
    first | refine Run.condT rfl rfl ?_ | refine Run.condF rfl rfl ?_ | refine Run.condT rfl (by assumption) ?_ | refine Run.condF rfl (by assumption) ?_
    repeat (first | refine Run.seq ?_ | refine Run.skip ?_ | refine Run.block ?_)
    refine Run.region ?_
    first | refine O.ar rfl rfl rfl (by exact wrap_i64 (by omega) (by omega)) rfl ?_ | refine O.ar rfl rfl rfl rfl rfl ?_
    refine O.move rfl rfl ?_
    refine O.nil ?_
    try refine Run.keep [0, 1, 2, 4, 5, 7, 8, 9, 10, 11, 12, 14, 15, 25, 27, 28, 29, 30, 37, 46, 47, 48, 49, 60] rfl rfl ?_
    refine ih (j + 1) _ ?_ (by omega) (by omega)
    exact SLe.drop (by repeat (first | exact TmIn.nil | refine TmIn.cons rfl ?_)) (by repeat (first | exact BxIn.nil | refine BxIn.cons rfl ?_)) rfl rfl
  have hj2 : j = cs.length := by omega
  subst hj2
  repeat (first | refine Run.seq ?_ | refine Run.skip ?_ | refine Run.block ?_)
  refine Run.region ?_
  first | refine O.cmp rfl rfl rfl (by first | exact decide_eq_true (by omega) | exact decide_eq_false (by omega)) rfl ?_ | refine O.cmp rfl rfl rfl rfl rfl ?_
  refine O.nil ?_
  try refine Run.keep [0, 1, 2, 4, 5, 7, 8, 9, 10, 11, 12, 14, 15, 25, 27, 28, 29, 30, 37, 46, 47, 48, 49, 60] rfl rfl ?_
  repeat (first | refine Run.seq ?_ | refine Run.skip ?_)
  first | refine Run.condT rfl rfl ?_ | refine Run.condF rfl rfl ?_ | refine Run.condT rfl (by assumption) ?_ | refine Run.condF rfl (by assumption) ?_
  refine Run.exit ?_
  repeat (first | refine thenR_exit ?_ | refine roundR_exit ?_ | refine blockR_exit ?_ | refine blockR_pass rfl ?_)
  repeat (first | refine Run.seq ?_ | refine Run.skip ?_ | refine Run.block ?_)
  refine Run.region ?_
  refine O.build hE T73 L73 rfl rfl rfl ?_
  refine O.store hE T73 rfl rfl rfl rfl rfl rfl ?_
  refine O.assign rfl rfl ?_
  refine O.nil ?_
  try refine Run.keep [0, 1, 2, 4, 5, 7, 8, 9, 10, 11, 12, 14, 15, 25, 27, 28, 29, 30, 37, 46, 47, 48, 49, 60] rfl rfl ?_
  (repeat (first | refine Run.seq ?_ | refine Run.skip ?_)); (try refine Run.ret ?_); first | exact Ends.flat hE (.inr rfl) rfl rfl (AVle.of_eq rfl) rfl | exact Ends.flat hE (.inl rfl) rfl rfl (AVle.of_eq rfl) rfl
theorem fnOfBad {cs : List Kol} {op : Int} {a b : Xp} (hop : op ≠ 1 ∧ op ≠ 2) (ha : FnC (En Tryd.prog g) 35 [xA a, .pv (.lst 3 (cs.map kolE))] (.tup [srtA ⟨0, false⟩, .pv (.int .i64 5)]) []) :
    FnC (En Tryd.prog g) 35 [xA (.bi op a b), .pv (.lst 3 (cs.map kolE))] (.tup [srtA ⟨0, false⟩, .pv (.int .i64 5)]) [] := by
  have hE := EnOk g
  obtain ⟨o1, o2⟩ := hop
  have hat : ([xE a, xE b] : List PV)[(0 : Int).toNat]? = some (xE a) := rfl
  dsimp only [xA, Xp.op, Xp.v, Xp.nm, Xp.as] at ha ⊢
  refine FnC.of Tryd.func35 rfl rfl rfl rfl ?_
  repeat (first | refine Run.seq ?_ | refine Run.skip ?_ | refine Run.block ?_)
  refine Run.region ?_
  refine O.box 2 rfl (by first | rfl | exact cells_ones (by simp [ones_app, ones_ints, ones, AV.one, PV.one])) rfl rfl ?_
  refine O.alloc hE 4 T73 rfl rfl rfl ?_
  refine O.assign rfl rfl ?_
  refine O.nil ?_
  try refine Run.keep [0, 1, 2, 4, 5, 7, 8, 9, 10, 11, 12, 14, 15, 25, 27, 28, 29, 30, 37, 46, 47, 48, 49, 60] rfl rfl ?_
  repeat (first | refine Run.seq ?_ | refine Run.skip ?_ | refine Run.block ?_)
  refine Run.region ?_
  refine O.field hE L28 rfl rfl rfl rfl ?_
  first | refine O.loadS hE T3 rfl rfl rfl (by rfl) rfl ?_ | refine O.loadE hE T3 rfl rfl (by rfl) rfl ?_ | refine O.load hE T3 rfl rfl rfl rfl ?_
  refine O.nil ?_
  try refine Run.keep [0, 1, 2, 4, 5, 7, 8, 9, 10, 11, 12, 14, 15, 25, 27, 28, 29, 30, 37, 46, 47, 48, 49, 60] rfl rfl ?_
  repeat (first | refine Run.seq ?_ | refine Run.skip ?_ | refine Run.block ?_)
  refine Run.region ?_
  first | refine O.cmp rfl rfl rfl (by first | exact decide_eq_true (by omega) | exact decide_eq_false (by omega)) rfl ?_ | refine O.cmp rfl rfl rfl rfl rfl ?_
  refine O.assign rfl rfl ?_
  refine O.nil ?_
  try refine Run.keep [0, 1, 2, 4, 5, 7, 8, 9, 10, 11, 12, 14, 15, 25, 27, 28, 29, 30, 37, 46, 47, 48, 49, 60] rfl rfl ?_
  repeat (first | refine Run.seq ?_ | refine Run.skip ?_)
  first | refine Run.condT rfl rfl ?_ | refine Run.condF rfl rfl ?_ | refine Run.condT rfl (by assumption) ?_ | refine Run.condF rfl (by assumption) ?_
  repeat (first | refine Run.seq ?_ | refine Run.skip ?_ | refine Run.block ?_)
  refine Run.region ?_
  first | refine O.cmp rfl rfl rfl (by first | exact decide_eq_true (by omega) | exact decide_eq_false (by omega)) rfl ?_ | refine O.cmp rfl rfl rfl rfl rfl ?_
  refine O.assign rfl rfl ?_
  refine O.nil ?_
  try refine Run.keep [0, 1, 2, 4, 5, 7, 8, 9, 10, 11, 12, 14, 15, 25, 27, 28, 29, 30, 37, 46, 47, 48, 49, 60] rfl rfl ?_
  repeat (first | refine Run.seq ?_ | refine Run.skip ?_)
  first | refine Run.condT rfl rfl ?_ | refine Run.condF rfl rfl ?_ | refine Run.condT rfl (by assumption) ?_ | refine Run.condF rfl (by assumption) ?_
  repeat (first | refine Run.seq ?_ | refine Run.skip ?_ | refine Run.block ?_)
  refine Run.region ?_
  first | refine O.allocS hE 8 T91 ints_zero rfl rfl ?_ | refine O.alloc hE 8 T91 rfl rfl rfl ?_
  refine O.nil ?_
  try refine Run.keep [0, 1, 2, 4, 5, 7, 8, 9, 10, 11, 12, 14, 15, 25, 27, 28, 29, 30, 37, 46, 47, 48, 49, 60] rfl rfl ?_
  repeat (first | refine Run.seq ?_ | refine Run.skip ?_ | refine Run.block ?_)
  refine Run.region ?_
  refine O.field hE L28 rfl rfl rfl rfl ?_
  first | refine O.loadS hE T26 rfl rfl rfl (by rfl) rfl ?_ | refine O.loadE hE T26 rfl rfl (by rfl) rfl ?_ | refine O.load hE T26 rfl rfl rfl rfl ?_
  first | refine O.lenN hE T26 rfl rfl rfl (by first | exact newest_pv | exact newest_gl rfl rfl | trivial) lenC rfl ?_ | refine O.lenLst hE T26 rfl rfl rfl (by first | exact newest_pv | exact newest_gl rfl rfl | trivial) rfl ?_
  refine O.move rfl rfl ?_
  refine O.nil ?_
  try refine Run.keep [0, 1, 2, 4, 5, 7, 8, 9, 10, 11, 12, 14, 15, 25, 27, 28, 29, 30, 37, 46, 47, 48, 49, 60] rfl rfl ?_
  repeat (first | refine Run.seq ?_ | refine Run.skip ?_)
  refine Run.block ?_
  refine Run.loopInv (ι := Nat) (fun j => j = 0)
    (fun j => ⟨76, [(1, .pv (.lst 3 (cs.map kolE))), (4, .ptr 4 0), (5, .pv (.int .i64 0)), (46, .pv (.lst 7 [xE a, xE b])), (47, .pv (.int .i64 2)), (48, .pv (.int .i64 0))], [(4, .var [.pv (.int .i64 0), .pv (.bool false)])]⟩) (fun j => 0) 0 rfl ?_ ?_
  ·
    exact SLe.drop (by repeat (first | exact TmIn.nil | refine TmIn.cons rfl ?_)) (by repeat (first | exact BxIn.nil | refine BxIn.cons rfl ?_)) rfl rfl
  rintro j rfl ih
  repeat (first | refine Run.seq ?_ | refine Run.skip ?_ | refine Run.block ?_)
  refine Run.region ?_
  first | refine O.cmp rfl rfl rfl (by first | exact decide_eq_true (by omega) | exact decide_eq_false (by omega)) rfl ?_ | refine O.cmp rfl rfl rfl rfl rfl ?_
  refine O.nil ?_
  try refine Run.keep [0, 1, 2, 4, 5, 7, 8, 9, 10, 11, 12, 14, 15, 25, 27, 28, 29, 30, 37, 46, 47, 48, 49, 60] rfl rfl ?_
  repeat (first | refine Run.seq ?_ | refine Run.skip ?_)
  first | refine Run.condT rfl rfl ?_ | refine Run.condF rfl rfl ?_ | refine Run.condT rfl (by assumption) ?_ | refine Run.condF rfl (by assumption) ?_
  repeat (first | refine Run.seq ?_ | refine Run.skip ?_ | refine Run.block ?_)
  refine Run.region ?_
  refine O.move rfl rfl ?_
  refine O.index hE T26 rfl T28 rfl rfl (by first | exact newest_pv | exact newest_gl rfl rfl | trivial) rfl (by omega) (by first | assumption | rfl) rfl rfl rfl ?_
  refine O.load hE T28 rfl rfl rfl rfl ?_
  refine O.alloc hE 10 T28 rfl rfl rfl ?_
  refine O.assign rfl rfl ?_
  refine O.store hE T28 rfl rfl rfl rfl rfl rfl ?_
  refine O.nil ?_
  try refine Run.keep [0, 1, 2, 4, 5, 7, 8, 9, 10, 11, 12, 14, 15, 25, 27, 28, 29, 30, 37, 46, 47, 48, 49, 60] rfl rfl ?_
  repeat (first | refine Run.seq ?_ | refine Run.skip ?_ | refine Run.block ?_)
  refine Run.region ?_
  refine O.load hE T28 rfl rfl rfl rfl ?_
  refine O.move rfl rfl ?_
  refine O.callE ha rfl (by first | rfl | simp [closed, men3, mens2_app, mens2_ints, mens2, men2, men1, mens1_app, mens1_ints, mens1]) (by first | rfl | simp [d2, ds1_ints, ds1_app, ds1, d1, ds0_app, ds0_ints, ds0, d0]) rfl ?_
  refine O.move rfl rfl ?_
  refine O.extract rfl rfl rfl ?_
  refine O.extract rfl rfl rfl ?_
  refine O.alloc hE 11 T73 rfl rfl rfl ?_
  refine O.store hE T73 rfl rfl rfl rfl rfl rfl ?_
  refine O.assign rfl rfl ?_
  refine O.nil ?_
  try refine Run.keep [0, 1, 2, 4, 5, 7, 8, 9, 10, 11, 12, 14, 15, 25, 27, 28, 29, 30, 37, 46, 47, 48, 49, 60] rfl rfl ?_
  repeat (first | refine Run.seq ?_ | refine Run.skip ?_ | refine Run.block ?_)
  refine Run.region ?_
  refine O.move rfl rfl ?_
  first | refine O.cmp rfl rfl rfl (by first | exact decide_eq_true (by omega) | exact decide_eq_false (by omega)) rfl ?_ | refine O.cmp rfl rfl rfl rfl rfl ?_
  refine O.nil ?_
  try refine Run.keep [0, 1, 2, 4, 5, 7, 8, 9, 10, 11, 12, 14, 15, 25, 27, 28, 29, 30, 37, 46, 47, 48, 49, 60] rfl rfl ?_
  repeat (first | refine Run.seq ?_ | refine Run.skip ?_)
  first | refine Run.condT rfl rfl ?_ | refine Run.condF rfl rfl ?_ | refine Run.condT rfl (by assumption) ?_ | refine Run.condF rfl (by assumption) ?_
  repeat (first | refine Run.seq ?_ | refine Run.skip ?_ | refine Run.block ?_)
  refine Run.region ?_
  refine O.build hE T73 L73 rfl rfl rfl ?_
  refine O.move rfl rfl ?_
  refine O.store hE T73 rfl rfl rfl rfl rfl rfl ?_
  refine O.assign rfl rfl ?_
  refine O.nil ?_
  try refine Run.keep [0, 1, 2, 4, 5, 7, 8, 9, 10, 11, 12, 14, 15, 25, 27, 28, 29, 30, 37, 46, 47, 48, 49, 60] rfl rfl ?_
  refine Run.ret ?_
  repeat (first | refine thenR_ret ?_ | refine roundR_ret ?_ | refine blockR_ret ?_)
  exact Ends.of hE (.inr rfl) rfl rfl (SLe.drop (by repeat (first | exact TmIn.nil | refine TmIn.cons rfl ?_)) (by repeat (first | exact BxIn.nil | refine BxIn.cons rfl ?_)) rfl rfl)
theorem fnKOfBad (hV : VStr g) {cs : List Kol} (hc : ColsOk cs) {x : Xp} (hw : x.wf) (h : FnC (En Tryd.prog g) 35 [xA x, .pv (.lst 3 (cs.map kolE))] (.tup [srtA ⟨0, false⟩, .pv (.int .i64 5)]) []) (hd : x.dp ≤ 7) (hs : x.sz ≤ 40) : FnC (En Tryd.prog g) 14 [xA x, .pv (.lst 3 (cs.map kolE))] (.tup [.pv (.int .i64 0), .pv (.bool false), .pv (.int .i64 5)]) [] := by
  have hE := EnOk g
  have c1 := fnXCheck hV hw hd hs
  have c2 := fnColumns (g := g) hc
  clear hw
  refine FnC.of Tryd.func14 rfl rfl rfl rfl ?_
  repeat (first | refine Run.seq ?_ | refine Run.skip ?_ | refine Run.block ?_)
  refine Run.region ?_
  refine O.box 2 rfl (by first | rfl | exact cells_ones (by simp [ones_app, ones_ints, ones, AV.one, PV.one])) rfl rfl ?_
  refine O.assign rfl rfl ?_
  refine O.assign rfl rfl ?_
  refine O.assign rfl rfl ?_
  refine O.nil ?_
  try refine Run.keep [0, 1, 2, 4, 5, 6, 7, 8, 9, 13, 18, 27] rfl rfl ?_
  repeat (first | refine Run.seq ?_ | refine Run.skip ?_ | refine Run.block ?_)
  refine Run.region ?_
  refine O.load hE T28 rfl rfl rfl rfl ?_
  refine O.callE c1 rfl (by first | rfl | simp [closed, men3, mens2_app, mens2_ints, mens2, men2, men1, mens1_app, mens1_ints, mens1]) (by first | rfl | simp [d2, ds1_ints, ds1_app, ds1, d1, ds0_app, ds0_ints, ds0, d0]) rfl ?_
  refine O.assign rfl rfl ?_
  refine O.nil ?_
  try refine Run.keep [0, 1, 2, 4, 5, 6, 7, 8, 9, 13, 18, 27] rfl rfl ?_
  repeat (first | refine Run.seq ?_ | refine Run.skip ?_ | refine Run.block ?_)
  refine Run.region ?_
  refine O.move rfl rfl ?_
  first | refine O.cmp rfl rfl rfl (by first | exact decide_eq_true (by omega) | exact decide_eq_false (by omega)) rfl ?_ | refine O.cmp rfl rfl rfl rfl rfl ?_
  refine O.nil ?_
  try refine Run.keep [0, 1, 2, 4, 5, 6, 7, 8, 9, 13, 18, 27] rfl rfl ?_
  repeat (first | refine Run.seq ?_ | refine Run.skip ?_)
  first | refine Run.condT rfl rfl ?_ | refine Run.condF rfl rfl ?_ | refine Run.condT rfl (by assumption) ?_ | refine Run.condF rfl (by assumption) ?_
  repeat (first | refine Run.seq ?_ | refine Run.skip ?_ | refine Run.block ?_)
  refine Run.region ?_
  refine O.move rfl rfl ?_
  refine O.callE c2 rfl (by first | rfl | simp [closed, men3, mens2_app, mens2_ints, mens2, men2, men1, mens1_app, mens1_ints, mens1]) (by first | rfl | simp [d2, ds1_ints, ds1_app, ds1, d1, ds0_app, ds0_ints, ds0, d0]) rfl ?_
  refine O.assign rfl rfl ?_
  refine O.nil ?_
  try refine Run.keep [0, 1, 2, 4, 5, 6, 7, 8, 9, 13, 18, 27] rfl rfl ?_
  repeat (first | refine Run.seq ?_ | refine Run.skip ?_ | refine Run.block ?_)
  refine Run.region ?_
  refine O.move rfl rfl ?_
  first | refine O.cmp rfl rfl rfl (by first | exact decide_eq_true (by omega) | exact decide_eq_false (by omega)) rfl ?_ | refine O.cmp rfl rfl rfl rfl rfl ?_
  refine O.nil ?_
  try refine Run.keep [0, 1, 2, 4, 5, 6, 7, 8, 9, 13, 18, 27] rfl rfl ?_
  repeat (first | refine Run.seq ?_ | refine Run.skip ?_)
  first | refine Run.condT rfl rfl ?_ | refine Run.condF rfl rfl ?_ | refine Run.condT rfl (by assumption) ?_ | refine Run.condF rfl (by assumption) ?_
  repeat (first | refine Run.seq ?_ | refine Run.skip ?_ | refine Run.block ?_)
  refine Run.region ?_
  refine O.load hE T28 rfl rfl rfl rfl ?_
  refine O.move rfl rfl ?_
  refine O.callE h rfl (by first | rfl | simp [closed, men3, mens2_app, mens2_ints, mens2, men2, men1, mens1_app, mens1_ints, mens1]) (by first | rfl | simp [d2, ds1_ints, ds1_app, ds1, d1, ds0_app, ds0_ints, ds0, d0]) rfl ?_
  refine O.move rfl rfl ?_
  refine O.extract rfl rfl rfl ?_
  refine O.extract rfl rfl rfl ?_
  refine O.alloc hE 9 T73 rfl rfl rfl ?_
  refine O.store hE T73 rfl rfl rfl rfl rfl rfl ?_
  refine O.assign rfl rfl ?_
  refine O.nil ?_
  try refine Run.keep [0, 1, 2, 4, 5, 6, 7, 8, 9, 13, 18, 27] rfl rfl ?_
  repeat (first | refine Run.seq ?_ | refine Run.skip ?_ | refine Run.block ?_)
  refine Run.region ?_
  refine O.move rfl rfl ?_
  first | refine O.cmp rfl rfl rfl (by first | exact decide_eq_true (by omega) | exact decide_eq_false (by omega)) rfl ?_ | refine O.cmp rfl rfl rfl rfl rfl ?_
  refine O.nil ?_
  try refine Run.keep [0, 1, 2, 4, 5, 6, 7, 8, 9, 13, 18, 27] rfl rfl ?_
  repeat (first | refine Run.seq ?_ | refine Run.skip ?_)
  first | refine Run.condT rfl rfl ?_ | refine Run.condF rfl rfl ?_ | refine Run.condT rfl (by assumption) ?_ | refine Run.condF rfl (by assumption) ?_
  repeat (first | refine Run.seq ?_ | refine Run.skip ?_ | refine Run.block ?_)
  refine Run.region ?_
  refine O.move rfl rfl ?_
  refine O.assign rfl rfl ?_
  refine O.assign rfl rfl ?_
  refine O.assign rfl rfl ?_
  refine O.nil ?_
  try refine Run.keep [0, 1, 2, 4, 5, 6, 7, 8, 9, 13, 18, 27] rfl rfl ?_
  (repeat (first | refine Run.seq ?_ | refine Run.skip ?_)); (try refine Run.ret ?_); first | exact Ends.flat hE (.inr rfl) rfl rfl (AVle.of_eq rfl) rfl | exact Ends.flat hE (.inl rfl) rfl rfl (AVle.of_eq rfl) rfl
end Go.Proofs.YtdigejpgjnhclaaDoor.Vm
