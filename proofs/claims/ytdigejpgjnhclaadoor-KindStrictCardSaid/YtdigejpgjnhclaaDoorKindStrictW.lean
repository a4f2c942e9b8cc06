/- KindStrict: its walk. Conditions: none beyond the tables of utf8. -/
import Derived.Test.YtdigejpgjnhclaaDoorKindMoreW
namespace Go.Proofs.YtdigejpgjnhclaaDoor.Vm
open Go Go.RowKit Go.Lib
set_option linter.unusedVariables false
set_option linter.unusedSimpArgs false
attribute [local irreducible] Ops Dr Run
theorem kol_cells (l : List Kol) : ∀ e ∈ l.map kolE, e.cells.length = 3 := fun e he => by obtain ⟨v, _, rfl⟩ := List.mem_map.1 he; rfl
theorem flat_kol_len (l : List Kol) : (flat (l.map kolE)).length = l.length * 3 := by
  rw [flat_len (sz := 3) (kol_cells l), List.length_map]
theorem flat_kol_take (l : List Kol) {n : Nat} (h : l.length = n) : flat (l.map kolE) = ((flat (l.map kolE)).drop 0).take (n * 3) := by
  rw [List.drop_zero, List.take_of_length_le (by rw [flat_kol_len, h]; exact Nat.le_refl _)]
/-- A column's last cell is written. -/
theorem set_kol {A C : List Kol} {c : Kol} {b : Bool} : setAt ((flat ((A ++ c :: C).map kolE)).map AV.pv) (A.length * 3 + 2) [.pv (.bool b)] = (flat ((A ++ [(⟨c.nm, c.kd, b⟩ : Kol)] ++ C).map kolE)).map AV.pv := by
  have h1 : flat ((A ++ c :: C).map kolE) = flat (A.map kolE) ++ ([.str c.nm, .int .i64 c.kd, .bool c.nl] ++ flat (C.map kolE)) := by
    rw [List.map_append, flat_append, List.map_cons]; rfl
  have h2 : flat ((A ++ [(⟨c.nm, c.kd, b⟩ : Kol)] ++ C).map kolE) = flat (A.map kolE) ++ ([.str c.nm, .int .i64 c.kd, .bool b] ++ flat (C.map kolE)) := by
    rw [List.append_assoc, List.map_append, flat_append, List.singleton_append, List.map_cons]; rfl
  rw [h1, h2]
  have hl := flat_kol_len A
  generalize flat (A.map kolE) = X at *
  generalize flat (C.map kolE) = Y at *
  unfold setAt
  rw [← hl]
  simp only [List.map_append, List.map_cons, List.map_nil]
  have e1 : (X.map AV.pv).length = X.length := by simp
  rw [← e1]
  rw [List.take_append, List.drop_append]
  simp
  rw [List.take_of_length_le (by simp)]
  simp
  rw [List.drop_eq_nil_of_le (by simp; omega), show X.length + 2 + 1 - X.length = 3 by omega]
  rfl
theorem strict_step {cs : List Kol} {j : Nat} {c : Kol} (h : cs[j]? = some c) : strictC (cs.take j) ++ cs.drop j = strictC (cs.take j) ++ c :: cs.drop (j + 1) ∧ strictC (cs.take (j + 1)) ++ cs.drop (j + 1) = strictC (cs.take j) ++ [(⟨c.nm, c.kd, false⟩ : Kol)] ++ cs.drop (j + 1) := by
  obtain ⟨hlt, he⟩ := List.getElem?_eq_some_iff.1 h
  constructor
  · rw [List.drop_eq_getElem_cons hlt, he]
  · rw [List.take_add_one, h]
    simp [strictC]
set_option maxHeartbeats 4000000 in
theorem fnKindStrict {rs : List Rw} {kd : Int} (hl : (rs.length : Int) ≤ 9223372036854775807) (hr : ∀ r ∈ rs, RwOk r) : FnC (En Tryd.prog gT) 4 [.pv (.lst 4 (rs.map rawE)), .pv (.int .i64 kd)] (.pv (.bool true)) [] := by
  have hE := EnOk gT
  obtain ⟨x, m', ⟨m0, m1, hty, hdp⟩, c1⟩ := exprOf_ex (g := gT) hl hr kd
  have hsz := dp_sz hdp
  have hcs : ColsOk (colsH rs) := colsP_ok _
  have hcp : 0 < (colsH rs).length := by unfold colsH colsP; simp
  have hst := strictC_ok hcs
  obtain ⟨hts, hk1, hk2⟩ := hty.strict
  have c2 := fnKOf vstr hcs hty (by omega) (by omega)
  have c3 := fnKOf vstr hst hts (by omega) (by omega)
  rw [hk1] at c3
  have c4 := fnKOf vstr (cs := []) ⟨by simp, by simp, .nil⟩ (k := 2) (x := .lit ⟨2, 0, 0, noS⟩) (.lit (.int 0 ⟨by omega, by omega⟩) (by decide) (.inl rfl)) (by decide) (by decide)
  rw [show kindP [] (.lit ⟨2, 0, 0, noS⟩) = ⟨2, false⟩ from rfl] at c4
  dsimp only at c4
  have hlen := hcs.len
  have hLm : ((colsH rs).map kolE).length = (colsH rs).length := by simp
  clear hty hts hst hcs hk1
  generalize kindP (colsH rs) x = srt at *
  generalize (kindP (strictC (colsH rs)) x).nl = nb2 at *
  generalize rs.take 40 = R at *
  generalize colsH rs = cs at *
  obtain ⟨K, nb⟩ := srt
  dsimp only at hk2 c2 c3
  refine FnC.of Tryd.func4 rfl rfl rfl rfl ?_
  repeat (first | refine Run.seq ?_ | refine Run.skip ?_ | refine Run.block ?_)
  refine Run.region ?_
  refine O.assign rfl rfl ?_
  refine O.nil ?_
  try refine Run.keep [0, 1, 4, 5, 6, 8, 9, 10, 11, 12, 13, 14, 15, 16, 18, 37, 38, 39] rfl rfl ?_
  repeat (first | refine Run.seq ?_ | refine Run.skip ?_ | refine Run.block ?_)
  refine Run.region ?_
  refine O.move rfl rfl ?_
  refine O.move rfl rfl ?_
  refine O.call (bs' := []) 0 c1 (.cons (AVle.of_eq rfl) (.cons (AVle.of_eq rfl) .nil)) rfl rfl rfl rfl rfl rfl rfl ?_
  refine O.move rfl rfl ?_
  refine O.extract rfl rfl rfl ?_
  refine O.extract rfl rfl rfl ?_
  refine O.extract rfl rfl rfl ?_
  refine O.alloc hE 5 T28 rfl rfl rfl ?_
  refine O.store hE T28 rfl rfl rfl rfl rfl rfl ?_
  refine O.assign rfl rfl ?_
  refine O.assign rfl rfl ?_
  refine O.nil ?_
  try refine Run.keep [0, 1, 4, 5, 6, 8, 9, 10, 11, 12, 13, 14, 15, 16, 18, 37, 38, 39] rfl rfl ?_
  repeat (first | refine Run.seq ?_ | refine Run.skip ?_ | refine Run.block ?_)
  refine Run.region ?_
  refine O.load hE T28 rfl rfl rfl rfl ?_
  refine O.move rfl rfl ?_
  refine O.callE c2 rfl (by first | rfl | simp [closed, men3, mens2_app, mens2_ints, mens2, men2, men1, mens1_app, mens1_ints, mens1]) (by first | rfl | simp [d2, ds1_ints, ds1_app, ds1, d1, ds0_app, ds0_ints, ds0, d0]) rfl ?_
  refine O.move rfl rfl ?_
  refine O.extract rfl rfl rfl ?_
  refine O.extract rfl rfl rfl ?_
  refine O.extract rfl rfl rfl ?_
  refine O.assign rfl rfl ?_
  refine O.assign rfl rfl ?_
  refine O.assign rfl rfl ?_
  refine O.nil ?_
  try refine Run.keep [0, 1, 4, 5, 6, 8, 9, 10, 11, 12, 13, 14, 15, 16, 18, 37, 38, 39] rfl rfl ?_
  repeat (first | refine Run.seq ?_ | refine Run.skip ?_ | refine Run.block ?_)
  refine Run.region ?_
  refine O.lit hE 33 T29 rfl T37 rfl rfl rfl (xs := []) rfl rfl rfl rfl rfl ?_
  refine O.move rfl rfl ?_
  refine O.appendRow (b := 33) (ys := cs.map kolE) (tm1 := [(5, .ptr 5 0), (8, .pv (.int .i64 K)), (9, .pv (.bool nb)), (10, .pv (.int .i64 0))]) (bx1 := [(5, .var [.pv (.int .i64 x.op), .pv (.int .i64 x.v.kd), .pv (.int .i64 x.v.n), .pv (.int .u64 x.v.b), .pv (.str x.v.s), .pv (.str x.nm), .pv (.lst 7 x.as)])]) hE T29 rfl T37 rfl rfl rfl rfl newest_pv rfl rfl rfl (by rw [hLm]; dsimp only; omega) (by rw [hLm]; unfold maxLen; omega) (by omega) rfl (by repeat (first | exact TmIn.nil | refine TmIn.cons rfl ?_)) (by repeat (first | exact BxIn.nil | refine BxIn.cons rfl ?_)) rfl rfl rfl rfl ?_; rw [hLm]
  refine O.assign rfl rfl ?_
  refine O.nil ?_
  try refine Run.keep [0, 1, 4, 5, 6, 8, 9, 10, 11, 12, 13, 14, 15, 16, 18, 37, 38, 39] rfl rfl ?_
  repeat (first | refine Run.seq ?_ | refine Run.skip ?_ | refine Run.block ?_)
  refine Run.region ?_
  refine O.move rfl rfl ?_
  refine O.lenRow (j := (cs.length : Int)) hE T29 rfl rfl rfl rfl ?_
  refine O.move rfl rfl ?_
  refine O.nil ?_
  try refine Run.keep [0, 1, 4, 5, 6, 8, 9, 10, 11, 12, 13, 14, 15, 16, 18, 37, 38, 39] rfl rfl ?_
  repeat (first | refine Run.seq ?_ | refine Run.skip ?_)
  refine Run.block ?_
  refine Run.loopInv (ι := Nat) (fun j => j ≤ cs.length)
    (fun j => ⟨86, [(5, .ptr 5 0), (8, .pv (.int .i64 K)), (9, .pv (.bool nb)), (10, .pv (.int .i64 0)), (11, .vrow 33 0 cs.length), (37, .pv (.int .i64 cs.length)), (38, .pv (.int .i64 j))], [(33, .var ((flat ((strictC (cs.take j) ++ cs.drop j).map kolE)).map .pv)), (5, .var [.pv (.int .i64 x.op), .pv (.int .i64 x.v.kd), .pv (.int .i64 x.v.n), .pv (.int .u64 x.v.b), .pv (.str x.v.s), .pv (.str x.nm), .pv (.lst 7 x.as)])]⟩) (fun j => cs.length - j) 0 (by omega) ?_ ?_
  ·
    exact SLe.drop (by repeat (first | exact TmIn.nil | refine TmIn.cons rfl ?_)) (by repeat (first | exact BxIn.nil | refine BxIn.cons rfl ?_)) rfl (by simp only [mbx, menB, mens2, mens2_pvs, men2, men1, mens1, Bool.and_self])
  rintro j hj ih
  by_cases hlt : j < cs.length
  ·
    obtain ⟨c, hc⟩ : ∃ c, cs[j]? = some c := ⟨_, List.getElem?_eq_getElem hlt⟩
    obtain ⟨e1, e2⟩ := strict_step hc
    have hAl : (strictC (cs.take j)).length = j := by simp [strictC]; omega
    have hset := set_kol (A := strictC (cs.take j)) (c := c) (C := cs.drop (j + 1)) (b := false)
    rw [hAl, ← e1, ← e2] at hset
    have hble : j * 3 + 2 + 1 ≤ ((flat ((strictC (cs.take j) ++ cs.drop j).map kolE)).map AV.pv).length := by
      rw [List.length_map, flat_kol_len, List.length_append, hAl, List.length_drop]
      omega
    repeat (first | refine Run.seq ?_ | refine Run.skip ?_ | refine Run.block ?_)
    refine Run.region ?_
    first | refine O.cmp rfl rfl rfl (by first | exact decide_eq_true (by omega) | exact decide_eq_false (by omega)) rfl ?_ | refine O.cmp rfl rfl rfl rfl rfl ?_
    refine O.nil ?_
    try refine Run.keep [0, 1, 4, 5, 6, 8, 9, 10, 11, 12, 13, 14, 15, 16, 18, 37, 38, 39] rfl rfl ?_
    repeat (first | refine Run.seq ?_ | refine Run.skip ?_)
    first | refine Run.condT rfl rfl ?_ | refine Run.condF rfl rfl ?_ | refine Run.condT rfl (by assumption) ?_ | refine Run.condF rfl (by assumption) ?_
    repeat (first | refine Run.seq ?_ | refine Run.skip ?_ | refine Run.block ?_)
    refine Run.region ?_
    refine O.move rfl rfl ?_
    refine O.assign rfl rfl ?_
    refine O.nil ?_
    try refine Run.keep [0, 1, 4, 5, 6, 8, 9, 10, 11, 12, 13, 14, 15, 16, 18, 37, 38, 39] rfl rfl ?_
    repeat (first | refine Run.seq ?_ | refine Run.skip ?_ | refine Run.block ?_)
    refine Run.region ?_
    refine O.move rfl rfl ?_
    refine O.move rfl rfl ?_
    refine O.indexRow hE T29 rfl T37 rfl rfl (by omega) (by omega) (show 0 + (j : Int).toNat * 3 = j * 3 by rw [Int.toNat_natCast]; omega) rfl ?_
    refine O.field hE L37 rfl rfl rfl rfl ?_
    refine O.storeS hE T4 rfl rfl rfl rfl rfl hble hset ?_
    refine O.nil ?_
    try refine Run.keep [0, 1, 4, 5, 6, 8, 9, 10, 11, 12, 13, 14, 15, 16, 18, 37, 38, 39] rfl rfl ?_
    repeat (first | refine Run.seq ?_ | refine Run.skip ?_ | refine Run.block ?_)
    refine Run.region ?_
    first | refine O.ar rfl rfl rfl (by exact wrap_i64 (by omega) (by omega)) rfl ?_ | refine O.ar rfl rfl rfl rfl rfl ?_
    refine O.move rfl rfl ?_
    refine O.nil ?_
    try refine Run.keep [0, 1, 4, 5, 6, 8, 9, 10, 11, 12, 13, 14, 15, 16, 18, 37, 38, 39] rfl rfl ?_
    refine ih (j + 1) _ ?_ (by omega) (by omega)
    refine SLe.eqv (by repeat (first | exact TmIn.nil | refine TmIn.cons rfl ?_)) (by repeat (first | exact BxIn.nil | refine BxIn.cons rfl ?_)) rfl
  obtain rfl : j = cs.length := by omega
  repeat (first | refine Run.seq ?_ | refine Run.skip ?_ | refine Run.block ?_)
  refine Run.region ?_
  first | refine O.cmp rfl rfl rfl (by first | exact decide_eq_true (by omega) | exact decide_eq_false (by omega)) rfl ?_ | refine O.cmp rfl rfl rfl rfl rfl ?_
  refine O.nil ?_
  try refine Run.keep [0, 1, 4, 5, 6, 8, 9, 10, 11, 12, 13, 14, 15, 16, 18, 37, 38, 39] rfl rfl ?_
  repeat (first | refine Run.seq ?_ | refine Run.skip ?_)
  first | refine Run.condT rfl rfl ?_ | refine Run.condF rfl rfl ?_ | refine Run.condT rfl (by assumption) ?_ | refine Run.condF rfl (by assumption) ?_
  refine Run.exit ?_
  repeat (first | refine thenR_exit ?_ | refine roundR_exit ?_ | refine blockR_exit ?_ | refine blockR_pass rfl ?_)
  rw [List.take_length, List.drop_length, List.append_nil]
  have hsl : (strictC cs).length = cs.length := by simp [strictC]
  refine Run.pre (SLe.freezeR (tm' := [(5, .ptr 5 0), (8, .pv (.int .i64 K)), (9, .pv (.bool nb)), (10, .pv (.int .i64 0)), (11, .pv (.lst 3 ((strictC cs).map kolE)))]) (bx' := [(5, .var [.pv (.int .i64 x.op), .pv (.int .i64 x.v.kd), .pv (.int .i64 x.v.n), .pv (.int .u64 x.v.b), .pv (.str x.v.s), .pv (.str x.nm), .pv (.lst 7 x.as)])]) 33 rfl (.cons rfl (.same _) (.cons rfl (.same _) (.cons rfl (.same _) (.cons rfl (.same _) (.cons rfl (.row (sz := 3) (flat_kol_take _ hsl) (by simp [hsl]) (kol_cells _) (fun e he x hx => by obtain ⟨v, _, rfl⟩ := List.mem_map.1 he; simp only [kolE, PV.cells, List.mem_cons, List.not_mem_nil, or_false] at hx; rcases hx with rfl | rfl | rfl <;> rfl)) .nil))))) (by repeat (first | exact BxIn.nil | refine BxIn.cons rfl ?_)) rfl rfl rfl) ?_
  repeat (first | refine Run.seq ?_ | refine Run.skip ?_ | refine Run.block ?_)
  refine Run.region ?_
  refine O.load hE T28 rfl rfl rfl rfl ?_
  refine O.move rfl rfl ?_
  refine O.callE c3 rfl (by first | rfl | simp [closed, men3, mens2_app, mens2_ints, mens2, men2, men1, mens1_app, mens1_ints, mens1]) (by first | rfl | simp [d2, ds1_ints, ds1_app, ds1, d1, ds0_app, ds0_ints, ds0, d0]) rfl ?_
  refine O.move rfl rfl ?_
  refine O.extract rfl rfl rfl ?_
  refine O.extract rfl rfl rfl ?_
  refine O.extract rfl rfl rfl ?_
  refine O.assign rfl rfl ?_
  refine O.assign rfl rfl ?_
  refine O.assign rfl rfl ?_
  refine O.nil ?_
  try refine Run.keep [0, 1, 4, 5, 6, 8, 9, 10, 11, 12, 13, 14, 15, 16, 18, 37, 38, 39] rfl rfl ?_
  repeat (first | refine Run.seq ?_ | refine Run.skip ?_ | refine Run.block ?_)
  refine Run.region ?_
  refine O.build hE T25 L25 rfl rfl rfl ?_
  refine O.build hE T28 L28 rfl rfl rfl ?_
  refine O.call (bs' := []) 0 c4 (.cons (AVle.aggs (by repeat (first | exact AVles.nil | refine AVles.cons (AVle.of_eq rfl) ?_ | refine AVles.cons (AVle.nil _) ?_))) (.cons (AVle.nil _) .nil)) rfl rfl rfl rfl rfl rfl rfl ?_
  refine O.move rfl rfl ?_
  refine O.extract rfl rfl rfl ?_
  refine O.extract rfl rfl rfl ?_
  refine O.extract rfl rfl rfl ?_
  refine O.assign rfl rfl ?_
  refine O.assign rfl rfl ?_
  refine O.assign rfl rfl ?_
  refine O.nil ?_
  try refine Run.keep [0, 1, 4, 5, 6, 8, 9, 10, 11, 12, 13, 14, 15, 16, 18, 37, 38, 39] rfl rfl ?_
  cases nb
  ·
    have : nb2 = false := by
      cases nb2
      · rfl
      · exact absurd (hk2 rfl) (by simp)
    subst this
    repeat (first | refine Run.seq ?_ | refine Run.skip ?_ | refine Run.block ?_)
    refine Run.region ?_
    refine O.move rfl rfl ?_
    first | refine O.cmp rfl rfl rfl (by first | exact decide_eq_true (by omega) | exact decide_eq_false (by omega)) rfl ?_ | refine O.cmp rfl rfl rfl rfl rfl ?_
    refine O.move rfl rfl ?_
    first | (refine O.yes rfl rfl (by first | rfl | assumption) ?_; refine O.move rfl rfl ?_) | refine O.no rfl rfl rfl rfl ?_
    first | (refine O.yes rfl rfl (by first | rfl | assumption) ?_; first | refine O.cmp rfl rfl rfl (by first | exact decide_eq_true (by omega) | exact decide_eq_false (by omega)) rfl ?_ | refine O.cmp rfl rfl rfl rfl rfl ?_) | refine O.no rfl rfl rfl rfl ?_
    refine O.pick rfl rfl rfl rfl rfl ?_
    refine O.move rfl rfl ?_
    first | (refine O.yes rfl rfl (by first | rfl | assumption) ?_; refine O.move rfl rfl ?_) | refine O.no rfl rfl rfl rfl ?_
    first | (refine O.yes rfl rfl (by first | rfl | assumption) ?_; first | refine O.cmp rfl rfl rfl (by first | exact decide_eq_true (by omega) | exact decide_eq_false (by omega)) rfl ?_ | refine O.cmp rfl rfl rfl rfl rfl ?_) | refine O.no rfl rfl rfl rfl ?_
    refine O.pick rfl rfl rfl rfl rfl ?_
    refine O.move rfl rfl ?_
    first | (refine O.yes rfl rfl (by first | rfl | assumption) ?_; refine O.move rfl rfl ?_) | refine O.no rfl rfl rfl rfl ?_
    first | (refine O.yes rfl rfl (by first | rfl | assumption) ?_; first | refine O.cmp rfl rfl rfl (by first | exact decide_eq_true (by omega) | exact decide_eq_false (by omega)) rfl ?_ | refine O.cmp rfl rfl rfl rfl rfl ?_) | refine O.no rfl rfl rfl rfl ?_
    refine O.pick rfl rfl rfl rfl rfl ?_
    refine O.move rfl rfl ?_
    first | (refine O.yes rfl rfl (by first | rfl | assumption) ?_; refine O.move rfl rfl ?_) | refine O.no rfl rfl rfl rfl ?_
    first | (refine O.yes rfl rfl (by first | rfl | assumption) ?_; refine O.move rfl rfl ?_) | refine O.no rfl rfl rfl rfl ?_
    first | (refine O.yes rfl rfl (by first | rfl | assumption) ?_; first | refine O.cmp rfl rfl rfl (by first | exact decide_eq_true (by omega) | exact decide_eq_false (by omega)) rfl ?_ | refine O.cmp rfl rfl rfl rfl rfl ?_) | refine O.no rfl rfl rfl rfl ?_
    refine O.pick rfl rfl rfl rfl rfl ?_
    refine O.move rfl rfl ?_
    first | (refine O.yes rfl rfl (by first | rfl | assumption) ?_; refine O.move rfl rfl ?_) | refine O.no rfl rfl rfl rfl ?_
    first | (refine O.yes rfl rfl (by first | rfl | assumption) ?_; refine O.move rfl rfl ?_) | refine O.no rfl rfl rfl rfl ?_
    first | (refine O.yes rfl rfl (by first | rfl | assumption) ?_; refine O.move rfl rfl ?_) | refine O.no rfl rfl rfl rfl ?_
    first | (refine O.yes rfl rfl (by first | rfl | assumption) ?_; refine O.un rfl rfl rfl rfl rfl ?_) | refine O.no rfl rfl rfl rfl ?_
    first | (refine O.yes rfl rfl (by first | rfl | assumption) ?_; refine O.pick rfl rfl rfl rfl rfl ?_) | refine O.no rfl rfl rfl rfl ?_
    refine O.pick rfl rfl rfl rfl rfl ?_
    refine O.assign rfl rfl ?_
    refine O.nil ?_
    try refine Run.keep [0, 1, 4, 5, 6, 8, 9, 10, 11, 12, 13, 14, 15, 16, 18, 37, 38, 39] rfl rfl ?_
    (repeat (first | refine Run.seq ?_ | refine Run.skip ?_)); (try refine Run.ret ?_); first | exact Ends.flat hE (.inr rfl) rfl rfl (AVle.of_eq rfl) rfl | exact Ends.flat hE (.inl rfl) rfl rfl (AVle.of_eq rfl) rfl
  ·
    cases nb2
    ·
      repeat (first | refine Run.seq ?_ | refine Run.skip ?_ | refine Run.block ?_)
      refine Run.region ?_
      refine O.move rfl rfl ?_
      first | refine O.cmp rfl rfl rfl (by first | exact decide_eq_true (by omega) | exact decide_eq_false (by omega)) rfl ?_ | refine O.cmp rfl rfl rfl rfl rfl ?_
      refine O.move rfl rfl ?_
      first | (refine O.yes rfl rfl (by first | rfl | assumption) ?_; refine O.move rfl rfl ?_) | refine O.no rfl rfl rfl rfl ?_
      first | (refine O.yes rfl rfl (by first | rfl | assumption) ?_; first | refine O.cmp rfl rfl rfl (by first | exact decide_eq_true (by omega) | exact decide_eq_false (by omega)) rfl ?_ | refine O.cmp rfl rfl rfl rfl rfl ?_) | refine O.no rfl rfl rfl rfl ?_
      refine O.pick rfl rfl rfl rfl rfl ?_
      refine O.move rfl rfl ?_
      first | (refine O.yes rfl rfl (by first | rfl | assumption) ?_; refine O.move rfl rfl ?_) | refine O.no rfl rfl rfl rfl ?_
      first | (refine O.yes rfl rfl (by first | rfl | assumption) ?_; first | refine O.cmp rfl rfl rfl (by first | exact decide_eq_true (by omega) | exact decide_eq_false (by omega)) rfl ?_ | refine O.cmp rfl rfl rfl rfl rfl ?_) | refine O.no rfl rfl rfl rfl ?_
      refine O.pick rfl rfl rfl rfl rfl ?_
      refine O.move rfl rfl ?_
      first | (refine O.yes rfl rfl (by first | rfl | assumption) ?_; refine O.move rfl rfl ?_) | refine O.no rfl rfl rfl rfl ?_
      first | (refine O.yes rfl rfl (by first | rfl | assumption) ?_; first | refine O.cmp rfl rfl rfl (by first | exact decide_eq_true (by omega) | exact decide_eq_false (by omega)) rfl ?_ | refine O.cmp rfl rfl rfl rfl rfl ?_) | refine O.no rfl rfl rfl rfl ?_
      refine O.pick rfl rfl rfl rfl rfl ?_
      refine O.move rfl rfl ?_
      first | (refine O.yes rfl rfl (by first | rfl | assumption) ?_; refine O.move rfl rfl ?_) | refine O.no rfl rfl rfl rfl ?_
      first | (refine O.yes rfl rfl (by first | rfl | assumption) ?_; refine O.move rfl rfl ?_) | refine O.no rfl rfl rfl rfl ?_
      first | (refine O.yes rfl rfl (by first | rfl | assumption) ?_; first | refine O.cmp rfl rfl rfl (by first | exact decide_eq_true (by omega) | exact decide_eq_false (by omega)) rfl ?_ | refine O.cmp rfl rfl rfl rfl rfl ?_) | refine O.no rfl rfl rfl rfl ?_
      refine O.pick rfl rfl rfl rfl rfl ?_
      refine O.move rfl rfl ?_
      first | (refine O.yes rfl rfl (by first | rfl | assumption) ?_; refine O.move rfl rfl ?_) | refine O.no rfl rfl rfl rfl ?_
      first | (refine O.yes rfl rfl (by first | rfl | assumption) ?_; refine O.move rfl rfl ?_) | refine O.no rfl rfl rfl rfl ?_
      first | (refine O.yes rfl rfl (by first | rfl | assumption) ?_; refine O.move rfl rfl ?_) | refine O.no rfl rfl rfl rfl ?_
      first | (refine O.yes rfl rfl (by first | rfl | assumption) ?_; refine O.un rfl rfl rfl rfl rfl ?_) | refine O.no rfl rfl rfl rfl ?_
      first | (refine O.yes rfl rfl (by first | rfl | assumption) ?_; refine O.pick rfl rfl rfl rfl rfl ?_) | refine O.no rfl rfl rfl rfl ?_
      refine O.pick rfl rfl rfl rfl rfl ?_
      refine O.assign rfl rfl ?_
      refine O.nil ?_
      try refine Run.keep [0, 1, 4, 5, 6, 8, 9, 10, 11, 12, 13, 14, 15, 16, 18, 37, 38, 39] rfl rfl ?_
      (repeat (first | refine Run.seq ?_ | refine Run.skip ?_)); (try refine Run.ret ?_); first | exact Ends.flat hE (.inr rfl) rfl rfl (AVle.of_eq rfl) rfl | exact Ends.flat hE (.inl rfl) rfl rfl (AVle.of_eq rfl) rfl
    ·
      repeat (first | refine Run.seq ?_ | refine Run.skip ?_ | refine Run.block ?_)
      refine Run.region ?_
      refine O.move rfl rfl ?_
      first | refine O.cmp rfl rfl rfl (by first | exact decide_eq_true (by omega) | exact decide_eq_false (by omega)) rfl ?_ | refine O.cmp rfl rfl rfl rfl rfl ?_
      refine O.move rfl rfl ?_
      first | (refine O.yes rfl rfl (by first | rfl | assumption) ?_; refine O.move rfl rfl ?_) | refine O.no rfl rfl rfl rfl ?_
      first | (refine O.yes rfl rfl (by first | rfl | assumption) ?_; first | refine O.cmp rfl rfl rfl (by first | exact decide_eq_true (by omega) | exact decide_eq_false (by omega)) rfl ?_ | refine O.cmp rfl rfl rfl rfl rfl ?_) | refine O.no rfl rfl rfl rfl ?_
      refine O.pick rfl rfl rfl rfl rfl ?_
      refine O.move rfl rfl ?_
      first | (refine O.yes rfl rfl (by first | rfl | assumption) ?_; refine O.move rfl rfl ?_) | refine O.no rfl rfl rfl rfl ?_
      first | (refine O.yes rfl rfl (by first | rfl | assumption) ?_; first | refine O.cmp rfl rfl rfl (by first | exact decide_eq_true (by omega) | exact decide_eq_false (by omega)) rfl ?_ | refine O.cmp rfl rfl rfl rfl rfl ?_) | refine O.no rfl rfl rfl rfl ?_
      refine O.pick rfl rfl rfl rfl rfl ?_
      refine O.move rfl rfl ?_
      first | (refine O.yes rfl rfl (by first | rfl | assumption) ?_; refine O.move rfl rfl ?_) | refine O.no rfl rfl rfl rfl ?_
      first | (refine O.yes rfl rfl (by first | rfl | assumption) ?_; first | refine O.cmp rfl rfl rfl (by first | exact decide_eq_true (by omega) | exact decide_eq_false (by omega)) rfl ?_ | refine O.cmp rfl rfl rfl rfl rfl ?_) | refine O.no rfl rfl rfl rfl ?_
      refine O.pick rfl rfl rfl rfl rfl ?_
      refine O.move rfl rfl ?_
      first | (refine O.yes rfl rfl (by first | rfl | assumption) ?_; refine O.move rfl rfl ?_) | refine O.no rfl rfl rfl rfl ?_
      first | (refine O.yes rfl rfl (by first | rfl | assumption) ?_; refine O.move rfl rfl ?_) | refine O.no rfl rfl rfl rfl ?_
      first | (refine O.yes rfl rfl (by first | rfl | assumption) ?_; first | refine O.cmp rfl rfl rfl (by first | exact decide_eq_true (by omega) | exact decide_eq_false (by omega)) rfl ?_ | refine O.cmp rfl rfl rfl rfl rfl ?_) | refine O.no rfl rfl rfl rfl ?_
      refine O.pick rfl rfl rfl rfl rfl ?_
      refine O.move rfl rfl ?_
      first | (refine O.yes rfl rfl (by first | rfl | assumption) ?_; refine O.move rfl rfl ?_) | refine O.no rfl rfl rfl rfl ?_
      first | (refine O.yes rfl rfl (by first | rfl | assumption) ?_; refine O.move rfl rfl ?_) | refine O.no rfl rfl rfl rfl ?_
      first | (refine O.yes rfl rfl (by first | rfl | assumption) ?_; refine O.move rfl rfl ?_) | refine O.no rfl rfl rfl rfl ?_
      first | (refine O.yes rfl rfl (by first | rfl | assumption) ?_; refine O.un rfl rfl rfl rfl rfl ?_) | refine O.no rfl rfl rfl rfl ?_
      first | (refine O.yes rfl rfl (by first | rfl | assumption) ?_; refine O.pick rfl rfl rfl rfl rfl ?_) | refine O.no rfl rfl rfl rfl ?_
      refine O.pick rfl rfl rfl rfl rfl ?_
      refine O.assign rfl rfl ?_
      refine O.nil ?_
      try refine Run.keep [0, 1, 4, 5, 6, 8, 9, 10, 11, 12, 13, 14, 15, 16, 18, 37, 38, 39] rfl rfl ?_
      (repeat (first | refine Run.seq ?_ | refine Run.skip ?_)); (try refine Run.ret ?_); first | exact Ends.flat hE (.inr rfl) rfl rfl (AVle.of_eq rfl) rfl | exact Ends.flat hE (.inl rfl) rfl rfl (AVle.of_eq rfl) rfl
end Go.Proofs.YtdigejpgjnhclaaDoor.Vm
