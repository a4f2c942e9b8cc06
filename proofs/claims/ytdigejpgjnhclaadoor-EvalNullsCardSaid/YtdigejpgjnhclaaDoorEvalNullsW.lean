/- EvalNulls: its walk. Conditions: none beyond the tables of utf8. -/
import Derived.Test.YtdigejpgjnhclaaDoorEvalH
namespace Go.Proofs.YtdigejpgjnhclaaDoor.Vm
open Go Go.RowKit Go.Lib
set_option linter.unusedVariables false
set_option linter.unusedSimpArgs false
attribute [local irreducible] Ops Dr Run
theorem null_two {o : Int} (h5 : 5 ≤ o) (h14 : o ≤ 14) {v w : Vl} (h : v.kd = 0 ∨ w.kd = 0) : two2 o v w = (v0, 0) := by
  have h' : w.kd = 0 ∨ v.kd = 0 := h.symm
  unfold two2
  rw [if_neg (by omega), if_neg (by omega), if_neg (by omega), if_neg (by omega)]
  by_cases h8 : o ≤ 8
  · rw [if_pos ⟨h5, h8⟩, if_pos h]
  · rw [if_neg (by omega)]
    have : cmpB o v w = 1 := by
      unfold cmpB cmpT
      rw [if_pos h, if_pos h']
      simp only [if_pos h]
      repeat' split
      all_goals omega
    rw [this]
    rfl
abbrev kolA : Kol := ⟨nmOf 97, 2, true⟩
theorem colsA_ok : ColsOk [kolA] := ⟨by simp, fun c hc => by rw [List.mem_singleton.1 hc]; exact ⟨nmOf_ok (by omega) (by omega), by decide, by decide⟩, by simp⟩
theorem idxA : idxC [kolA] (nmOf 97) = some 0 := by
  unfold idxC
  rw [List.findIdx?_cons, if_pos (beq_self_eq_true _)]
theorem findA : findC [kolA] (nmOf 97) = some kolA := by
  unfold findC
  rw [List.find?_cons_of_pos (p := fun c : Kol => c.nm.toList == (nmOf 97).toList) (beq_self_eq_true _)]
theorem short_no {o : Int} (h14 : o ≤ 14) (v : Vl) : short o v = false := by
  have h1 : decide (o = 20) = false := decide_eq_false (by omega)
  have h2 : decide (o = 15) = false := decide_eq_false (by omega)
  have h3 : decide (o = 16) = false := decide_eq_false (by omega)
  unfold short
  rw [h1, h2, h3]
  rfl
/-- The sum of a column and nothing, either way round. -/
def xN (left : Bool) (o : Int) : Xp := match left with
  | true => .bi o (.lit v0) (.col (nmOf 97))
  | false => .bi o (.col (nmOf 97)) (.lit v0)
theorem xN_ty {left : Bool} {o : Int} (h5 : 5 ≤ o) (h14 : o ≤ 14) : ∃ k, Ty [kolA] k (xN left o) := by
  have hn : Ty [kolA] 2 (.lit v0) := .lit .null (by decide) (.inr rfl)
  have hc : Ty [kolA] 2 (.col (nmOf 97)) := Ty.col (c := kolA) findA (nmOf_ok (by omega) (by omega))
  have hb : BiTy o (if o ≤ 8 then 2 else 1) 2 := by unfold BiTy; split <;> omega
  cases left
  · exact ⟨_, .bi hb hc hn⟩
  · exact ⟨_, .bi hb hn hc⟩
theorem xN_val {left : Bool} {o n : Int} (h5 : 5 ≤ o) (h14 : o ≤ 14) : valP [kolA] [vN n] (xN left o) = (v0, 0) := by
  have hs := fun v => short_no (o := o) h14 v
  cases left
  · simp only [xN, valP, idxA, hs, if_true, Bool.false_eq_true, if_false]
    exact null_two h5 h14 (.inr rfl)
  · simp only [xN, valP, idxA, hs, if_true, Bool.false_eq_true, if_false]
    exact null_two h5 h14 (.inl rfl)
theorem same_self (v : Vl) : sameV v v = true := sameV_iff.2 rfl
set_option maxHeartbeats 4000000 in
theorem fnEvalNulls {op : Int} {r : Rw} (hr : RwOk r) {left : Bool} : FnC (En Tryd.prog gT) 7 [.pv (.int .i64 op), .agg [.pv (.int .i64 r.kd), .pv (.int .i64 r.a), .pv (.int .i64 r.b), .pv (.str r.s)], .pv (.bool left)] (.pv (.bool true)) [] := by
  have hE := EnOk gT
  have c1 := fnPick (g := gT) (a := op) (m := 10) (by omega) (by omega)
  have ho : 0 ≤ op % 10 ∧ op % 10 ≤ 9 := by omega
  obtain ⟨v, hv, hvk, cv⟩ := valOf_exK (g := gT) hr (kd := 2) (by omega) (by omega)
  obtain ⟨n, rfl, hn⟩ := good_int hv hvk
  generalize op % 10 = z at *
  have h5 : 5 ≤ 5 + z := by omega
  have h14 : 5 + z ≤ 14 := by omega
  have hrow : RowOk [kolA] [vN n] := ⟨rfl, fun i c v hc hv => by
    cases i with
    | zero => simp at hc hv; subst hc; subst hv; exact ⟨.int n hn, .inl rfl⟩
    | succ i => simp at hc⟩
  obtain ⟨k, hty⟩ := xN_ty (left := left) h5 h14
  have hval := xN_val (left := left) (n := n) h5 h14
  have hkk : 1 ≤ k ∧ k ≤ 4 := by
    cases left <;> cases hty with
    | bi h _ _ => unfold BiTy at h; omega
  have hdp : (xN left (5 + z)).dp = 2 := by cases left <;> rfl
  have hsz : (xN left (5 + z)).sz = 3 := by cases left <;> rfl
  have e1 := fnEval vstr colsA_ok hrow hty (by omega) (by omega)
  rw [hval] at e1
  have hty2 : Ty [kolA] 1 (.un 17 (xN left (5 + z))) := .un (.inr (.inr (.inr ⟨rfl, rfl, hkk⟩))) hty
  have hval2 : valP [kolA] [vN n] (.un 17 (xN left (5 + z))) = (vB true, 0) := by simp only [valP, hval]; rfl
  have e2 := fnEval vstr colsA_ok hrow hty2 (by simp only [Xp.dp]; omega) (by simp only [Xp.sz]; omega)
  rw [hval2] at e2
  have hval3 : valP [kolA] [vN n] (.bi 20 (xN left (5 + z)) (.lit (vN 7))) = (vN 7, 0) := by simp only [valP, hval]; rfl
  have e3 := fnEvalG vstr colsA_ok hrow (x := .bi 20 (xN left (5 + z)) (.lit (vN 7))) ⟨.inr (.inr rfl), hty.wf, .int 7 ⟨by omega, by omega⟩, by decide⟩ (by simp only [Xp.dp]; omega) (by simp only [Xp.sz]; omega)
    (toBi (toOk (by simp) hty) (toLit _ _)) (thBi (thOk vstr (by simp) hrow hty) (thLit _ _ _) (fun _ _ => fnTwoCoal)) (by rw [hval3]; exact .inl rfl)
  rw [hval3] at e3
  have o1 := fnOp1 (g := gT) (op := 17) (xN left (5 + z))
  have o2 := fnOp2 (g := gT) (op := 20) (xN left (5 + z)) (.lit (vN 7))
  have n7 := fnNumX (g := gT) (n := 7)
  have oT : left = true → FnC (En Tryd.prog gT) 15 [.pv (.int .i64 (5 + z)), xA (.lit v0), xA (.col (nmOf 97))] (xA (xN left (5 + z))) [] := fun h => by subst h; exact fnOp2 _ _
  have oF : left = false → FnC (En Tryd.prog gT) 15 [.pv (.int .i64 (5 + z)), xA (.col (nmOf 97)), xA (.lit v0)] (xA (xN left (5 + z))) [] := fun h => by subst h; exact fnOp2 _ _
  have o0 := fnOp2 (g := gT) (op := 5 + z) (.col (nmOf 97)) (.lit v0)
  clear hty hty2 hval hval2 hval3 hrow hdp hsz hv hvk
  obtain ⟨rk, ra, rb, rs⟩ := r
  dsimp only [vlA, vN, vB, if_true] at cv e1 e2 e3 n7 ⊢
  have s0 := same_self v0
  have s1 := same_self ⟨1, 1, 0, noS⟩
  have s7 := same_self ⟨2, 7, 0, noS⟩
  refine FnC.of Tryd.func7 rfl rfl rfl rfl ?_
  repeat (first | refine Run.seq ?_ | refine Run.skip ?_ | refine Run.block ?_)
  refine Run.region ?_
  refine O.box 4 rfl (by first | rfl | exact cells_ones (by simp [ones_app, ones_ints, ones, AV.one, PV.one])) rfl rfl ?_
  refine O.assign rfl rfl ?_
  refine O.nil ?_
  try refine Run.keep [0,1,2,4,6,7,8,9,10,11,12,13,14,15,16,17,18,28] rfl rfl ?_
  repeat (first | refine Run.seq ?_ | refine Run.skip ?_ | refine Run.block ?_)
  refine Run.region ?_
  refine O.move rfl rfl ?_
  refine O.callE c1 rfl (by first | rfl | simp [closed, men3, mens2_app, mens2_ints, mens2, men2, men1, mens1_app, mens1_ints, mens1]) (by first | rfl | simp [d2, ds1_ints, ds1_app, ds1, d1, ds0_app, ds0_ints, ds0, d0]) rfl ?_
  first | refine O.ar rfl rfl rfl (by exact wrap_i64 (by omega) (by omega)) rfl ?_ | refine O.ar rfl rfl rfl rfl rfl ?_
  refine O.assign rfl rfl ?_
  refine O.nil ?_
  try refine Run.keep [0,1,2,4,6,7,8,9,10,11,12,13,14,15,16,17,18,28] rfl rfl ?_
  repeat (first | refine Run.seq ?_ | refine Run.skip ?_ | refine Run.block ?_)
  refine Run.region ?_
  refine O.build hE T28 L28 rfl rfl rfl ?_
  refine O.alloc hE 8 T28 rfl rfl rfl ?_
  refine O.store hE T28 rfl rfl rfl rfl rfl rfl ?_
  refine O.nil ?_
  try refine Run.keep [0,1,2,4,6,7,8,9,10,11,12,13,14,15,16,17,18,28] rfl rfl ?_
  repeat (first | refine Run.seq ?_ | refine Run.skip ?_ | refine Run.block ?_)
  refine Run.region ?_
  refine O.build hE T28 L28 rfl rfl rfl ?_
  refine O.alloc hE 9 T28 rfl rfl rfl ?_
  refine O.store hE T28 rfl rfl rfl rfl rfl rfl ?_
  refine O.nil ?_
  try refine Run.keep [0,1,2,4,6,7,8,9,10,11,12,13,14,15,16,17,18,28] rfl rfl ?_
  cases hL : left
  ·
    have oF := oF hL
    rw [hL] at oF o1 o2 e1 e2 e3
    clear oT o0
    generalize xN false (5 + z) = x at *
    repeat (first | refine Run.seq ?_ | refine Run.skip ?_ | refine Run.block ?_)
    refine Run.region ?_
    refine O.move rfl rfl ?_
    refine O.load hE T28 rfl rfl rfl rfl ?_
    refine O.load hE T28 rfl rfl rfl rfl ?_
    refine O.call (bs' := []) 0 oF (.cons (AVle.of_eq rfl) (.cons (AVle.aggs (by repeat (first | exact AVles.nil | refine AVles.cons (AVle.of_eq rfl) ?_ | refine AVles.cons (AVle.nil _) ?_))) (.cons (AVle.aggs (by repeat (first | exact AVles.nil | refine AVles.cons (AVle.of_eq rfl) ?_ | refine AVles.cons (AVle.nil _) ?_))) .nil))) rfl rfl rfl rfl rfl rfl rfl ?_
    refine O.alloc hE 10 T28 rfl rfl rfl ?_
    refine O.store hE T28 rfl rfl rfl rfl rfl rfl ?_
    refine O.nil ?_
    try refine Run.keep [0,1,2,4,6,7,8,9,10,11,12,13,14,15,16,17,18,28] rfl rfl ?_
    repeat (first | refine Run.seq ?_ | refine Run.skip ?_ | refine Run.block ?_)
    refine Run.region ?_
    refine O.move rfl rfl ?_
    refine O.nil ?_
    try refine Run.keep [0,1,2,4,6,7,8,9,10,11,12,13,14,15,16,17,18,28] rfl rfl ?_
    repeat (first | refine Run.seq ?_ | refine Run.skip ?_)
    first | refine Run.condT rfl rfl ?_ | refine Run.condF rfl rfl ?_ | refine Run.condT rfl (by assumption) ?_ | refine Run.condF rfl (by assumption) ?_
    repeat (first | refine Run.seq ?_ | refine Run.skip ?_ | refine Run.block ?_)
    refine Run.region ?_
    refine O.build hE T37 L37 rfl rfl rfl ?_
    refine O.litV hE T29 rfl T37 rfl rfl rfl rfl rfl rfl rfl ?_
    refine O.assign rfl rfl ?_
    refine O.nil ?_
    try refine Run.keep [0,1,2,4,6,7,8,9,10,11,12,13,14,15,16,17,18,28] rfl rfl ?_
    repeat (first | refine Run.seq ?_ | refine Run.skip ?_ | refine Run.block ?_)
    refine Run.region ?_
    refine O.load hE T51 rfl rfl rfl rfl ?_
    refine O.callE cv rfl (by first | rfl | simp [closed, men3, mens2_app, mens2_ints, mens2, men2, men1, mens1_app, mens1_ints, mens1]) (by first | rfl | simp [d2, ds1_ints, ds1_app, ds1, d1, ds0_app, ds0_ints, ds0, d0]) rfl ?_
    refine O.litV hE T41 rfl T25 rfl rfl rfl rfl rfl rfl rfl ?_
    refine O.assign rfl rfl ?_
    refine O.nil ?_
    try refine Run.keep [0,1,2,4,6,7,8,9,10,11,12,13,14,15,16,17,18,28] rfl rfl ?_
    repeat (first | refine Run.seq ?_ | refine Run.skip ?_ | refine Run.block ?_)
    refine Run.region ?_
    refine O.load hE T28 rfl rfl rfl rfl ?_
    refine O.move rfl rfl ?_
    refine O.move rfl rfl ?_
    refine O.callE e1 rfl (by first | rfl | simp [closed, men3, mens2_app, mens2_ints, mens2, men2, men1, mens1_app, mens1_ints, mens1]) (by first | rfl | simp [d2, ds1_ints, ds1_app, ds1, d1, ds0_app, ds0_ints, ds0, d0]) rfl ?_
    refine O.move rfl rfl ?_
    refine O.extract rfl rfl rfl ?_
    refine O.extract rfl rfl rfl ?_
    refine O.alloc hE 13 T25 rfl rfl rfl ?_
    refine O.store hE T25 rfl rfl rfl rfl rfl rfl ?_
    refine O.assign rfl rfl ?_
    refine O.nil ?_
    try refine Run.keep [0,1,2,4,6,7,8,9,10,11,12,13,14,15,16,17,18,28] rfl rfl ?_
    repeat (first | refine Run.seq ?_ | refine Run.skip ?_ | refine Run.block ?_)
    refine Run.region ?_
    refine O.load hE T28 rfl rfl rfl rfl ?_
    refine O.callE o1 rfl (by first | rfl | simp [closed, men3, mens2_app, mens2_ints, mens2, men2, men1, mens1_app, mens1_ints, mens1]) (by first | rfl | simp [d2, ds1_ints, ds1_app, ds1, d1, ds0_app, ds0_ints, ds0, d0]) rfl ?_
    refine O.move rfl rfl ?_
    refine O.move rfl rfl ?_
    refine O.callE e2 rfl (by first | rfl | simp [closed, men3, mens2_app, mens2_ints, mens2, men2, men1, mens1_app, mens1_ints, mens1]) (by first | rfl | simp [d2, ds1_ints, ds1_app, ds1, d1, ds0_app, ds0_ints, ds0, d0]) rfl ?_
    refine O.move rfl rfl ?_
    refine O.extract rfl rfl rfl ?_
    refine O.extract rfl rfl rfl ?_
    refine O.alloc hE 15 T25 rfl rfl rfl ?_
    refine O.store hE T25 rfl rfl rfl rfl rfl rfl ?_
    refine O.assign rfl rfl ?_
    refine O.nil ?_
    try refine Run.keep [0,1,2,4,6,7,8,9,10,11,12,13,14,15,16,17,18,28] rfl rfl ?_
    repeat (first | refine Run.seq ?_ | refine Run.skip ?_ | refine Run.block ?_)
    refine Run.draw mixed rfl ?_
    refine D.load hE T28 rfl rfl rfl rfl ?_
    refine D.callE n7 rfl (by first | rfl | simp [closed, men3, mens2_app, mens2_ints, mens2, men2, men1, mens1_app, mens1_ints, mens1]) (by first | rfl | simp [d2, ds1_ints, ds1_app, ds1, d1, ds0_app, ds0_ints, ds0, d0]) rfl ?_
    refine D.callE o2 rfl (by first | rfl | simp [closed, men3, mens2_app, mens2_ints, mens2, men2, men1, mens1_app, mens1_ints, mens1]) (by first | rfl | simp [d2, ds1_ints, ds1_app, ds1, d1, ds0_app, ds0_ints, ds0, d0]) rfl ?_
    refine D.move rfl rfl ?_
    refine D.move rfl rfl ?_
    refine D.callE e3 rfl (by first | rfl | simp [closed, men3, mens2_app, mens2_ints, mens2, men2, men1, mens1_app, mens1_ints, mens1]) (by first | rfl | simp [d2, ds1_ints, ds1_app, ds1, d1, ds0_app, ds0_ints, ds0, d0]) rfl ?_
    refine D.move rfl rfl ?_
    refine D.extract rfl rfl rfl ?_
    refine D.extract rfl rfl rfl ?_
    refine D.alloc hE 17 T25 rfl rfl rfl ?_
    refine D.store hE T25 rfl rfl rfl rfl rfl rfl ?_
    refine D.assign rfl rfl ?_
    refine Dr.nil ?_
    refine ⟨rfl, ?_⟩
    try refine Run.keep [0,1,2,4,6,7,8,9,10,11,12,13,14,15,16,17,18,28] rfl rfl ?_
    repeat (first | refine Run.seq ?_ | refine Run.skip ?_ | refine Run.block ?_)
    refine Run.region ?_
    refine O.move rfl rfl ?_
    first | refine O.cmp rfl rfl rfl (by first | exact dT (by omega) | exact dF (by omega)) rfl ?_ | refine O.cmp rfl rfl rfl rfl rfl ?_
    refine O.move rfl rfl ?_
    first | (refine O.yes rfl rfl (by trivial) ?_; refine O.move rfl rfl ?_) | refine O.no rfl rfl rfl rfl ?_
    first | (refine O.yes rfl rfl (by trivial) ?_; first | refine O.cmp rfl rfl rfl (by first | exact dT (by omega) | exact dF (by omega)) rfl ?_ | refine O.cmp rfl rfl rfl rfl rfl ?_) | refine O.no rfl rfl rfl rfl ?_
    refine O.pick rfl rfl rfl rfl rfl ?_
    refine O.move rfl rfl ?_
    first | (refine O.yes rfl rfl (by trivial) ?_; refine O.move rfl rfl ?_) | refine O.no rfl rfl rfl rfl ?_
    first | (refine O.yes rfl rfl (by trivial) ?_; first | refine O.cmp rfl rfl rfl (by first | exact dT (by omega) | exact dF (by omega)) rfl ?_ | refine O.cmp rfl rfl rfl rfl rfl ?_) | refine O.no rfl rfl rfl rfl ?_
    refine O.pick rfl rfl rfl rfl rfl ?_
    refine O.move rfl rfl ?_
    first | (refine O.yes rfl rfl (by trivial) ?_; refine O.load hE T25 rfl rfl rfl rfl ?_) | refine O.no rfl rfl rfl rfl ?_
    first | (refine O.yes rfl rfl (by trivial) ?_; refine O.build hE T25 L25 rfl rfl rfl ?_) | refine O.no rfl rfl rfl rfl ?_
    first | (refine O.yes rfl rfl (by trivial) ?_; refine O.eqAggW rfl rfl rfl rfl (by kernel_rfl) (eq_vlW v0 v0) s0 rfl ?_) | refine O.no rfl rfl rfl rfl ?_
    refine O.pick rfl rfl rfl rfl rfl ?_
    refine O.move rfl rfl ?_
    first | (refine O.yes rfl rfl (by trivial) ?_; refine O.load hE T25 rfl rfl rfl rfl ?_) | refine O.no rfl rfl rfl rfl ?_
    first | (refine O.yes rfl rfl (by trivial) ?_; refine O.build hE T25 L25 rfl rfl rfl ?_) | refine O.no rfl rfl rfl rfl ?_
    first | (refine O.yes rfl rfl (by trivial) ?_; refine O.eqAggW rfl rfl rfl rfl (by kernel_rfl) (eq_vlW ⟨1, 1, 0, noS⟩ ⟨1, 1, 0, noS⟩) s1 rfl ?_) | refine O.no rfl rfl rfl rfl ?_
    refine O.pick rfl rfl rfl rfl rfl ?_
    refine O.move rfl rfl ?_
    first | (refine O.yes rfl rfl (by trivial) ?_; refine O.load hE T25 rfl rfl rfl rfl ?_) | refine O.no rfl rfl rfl rfl ?_
    first | (refine O.yes rfl rfl (by trivial) ?_; refine O.build hE T25 L25 rfl rfl rfl ?_) | refine O.no rfl rfl rfl rfl ?_
    first | (refine O.yes rfl rfl (by trivial) ?_; refine O.eqAggW rfl rfl rfl rfl (by kernel_rfl) (eq_vlW ⟨2, 7, 0, noS⟩ ⟨2, 7, 0, noS⟩) s7 rfl ?_) | refine O.no rfl rfl rfl rfl ?_
    refine O.pick rfl rfl rfl rfl rfl ?_
    refine O.assign rfl rfl ?_
    refine O.nil ?_
    try refine Run.keep [0,1,2,4,6,7,8,9,10,11,12,13,14,15,16,17,18,28] rfl rfl ?_
    (repeat (first | refine Run.seq ?_ | refine Run.skip ?_)); (try refine Run.ret ?_); first | exact Ends.flat hE (.inr rfl) rfl rfl (AVle.of_eq rfl) rfl | exact Ends.flat hE (.inl rfl) rfl rfl (AVle.of_eq rfl) rfl
  ·
    have oT := oT hL
    rw [hL] at oT o1 o2 e1 e2 e3
    clear oF
    generalize xN true (5 + z) = x at *
    repeat (first | refine Run.seq ?_ | refine Run.skip ?_ | refine Run.block ?_)
    refine Run.region ?_
    refine O.move rfl rfl ?_
    refine O.load hE T28 rfl rfl rfl rfl ?_
    refine O.load hE T28 rfl rfl rfl rfl ?_
    refine O.call (bs' := []) 0 o0 (.cons (AVle.of_eq rfl) (.cons (AVle.aggs (by repeat (first | exact AVles.nil | refine AVles.cons (AVle.of_eq rfl) ?_ | refine AVles.cons (AVle.nil _) ?_))) (.cons (AVle.aggs (by repeat (first | exact AVles.nil | refine AVles.cons (AVle.of_eq rfl) ?_ | refine AVles.cons (AVle.nil _) ?_))) .nil))) rfl rfl rfl rfl rfl rfl rfl ?_
    refine O.alloc hE 10 T28 rfl rfl rfl ?_
    refine O.store hE T28 rfl rfl rfl rfl rfl rfl ?_
    refine O.nil ?_
    try refine Run.keep [0,1,2,4,6,7,8,9,10,11,12,13,14,15,16,17,18,28] rfl rfl ?_
    repeat (first | refine Run.seq ?_ | refine Run.skip ?_ | refine Run.block ?_)
    refine Run.region ?_
    refine O.move rfl rfl ?_
    refine O.nil ?_
    try refine Run.keep [0,1,2,4,6,7,8,9,10,11,12,13,14,15,16,17,18,28] rfl rfl ?_
    repeat (first | refine Run.seq ?_ | refine Run.skip ?_)
    first | refine Run.condT rfl rfl ?_ | refine Run.condF rfl rfl ?_ | refine Run.condT rfl (by assumption) ?_ | refine Run.condF rfl (by assumption) ?_
    repeat (first | refine Run.seq ?_ | refine Run.skip ?_ | refine Run.block ?_)
    refine Run.region ?_
    refine O.move rfl rfl ?_
    refine O.load hE T28 rfl rfl rfl rfl ?_
    refine O.load hE T28 rfl rfl rfl rfl ?_
    refine O.call (bs' := []) 0 oT (.cons (AVle.of_eq rfl) (.cons (AVle.aggs (by repeat (first | exact AVles.nil | refine AVles.cons (AVle.of_eq rfl) ?_ | refine AVles.cons (AVle.nil _) ?_))) (.cons (AVle.aggs (by repeat (first | exact AVles.nil | refine AVles.cons (AVle.of_eq rfl) ?_ | refine AVles.cons (AVle.nil _) ?_))) .nil))) rfl rfl rfl rfl rfl rfl rfl ?_
    refine O.store hE T28 rfl rfl rfl rfl rfl rfl ?_
    refine O.nil ?_
    try refine Run.keep [0,1,2,4,6,7,8,9,10,11,12,13,14,15,16,17,18,28] rfl rfl ?_
    repeat (first | refine Run.seq ?_ | refine Run.skip ?_ | refine Run.block ?_)
    refine Run.region ?_
    refine O.build hE T37 L37 rfl rfl rfl ?_
    refine O.litV hE T29 rfl T37 rfl rfl rfl rfl rfl rfl rfl ?_
    refine O.assign rfl rfl ?_
    refine O.nil ?_
    try refine Run.keep [0,1,2,4,6,7,8,9,10,11,12,13,14,15,16,17,18,28] rfl rfl ?_
    repeat (first | refine Run.seq ?_ | refine Run.skip ?_ | refine Run.block ?_)
    refine Run.region ?_
    refine O.load hE T51 rfl rfl rfl rfl ?_
    refine O.callE cv rfl (by first | rfl | simp [closed, men3, mens2_app, mens2_ints, mens2, men2, men1, mens1_app, mens1_ints, mens1]) (by first | rfl | simp [d2, ds1_ints, ds1_app, ds1, d1, ds0_app, ds0_ints, ds0, d0]) rfl ?_
    refine O.litV hE T41 rfl T25 rfl rfl rfl rfl rfl rfl rfl ?_
    refine O.assign rfl rfl ?_
    refine O.nil ?_
    try refine Run.keep [0,1,2,4,6,7,8,9,10,11,12,13,14,15,16,17,18,28] rfl rfl ?_
    repeat (first | refine Run.seq ?_ | refine Run.skip ?_ | refine Run.block ?_)
    refine Run.region ?_
    refine O.load hE T28 rfl rfl rfl rfl ?_
    refine O.move rfl rfl ?_
    refine O.move rfl rfl ?_
    refine O.callE e1 rfl (by first | rfl | simp [closed, men3, mens2_app, mens2_ints, mens2, men2, men1, mens1_app, mens1_ints, mens1]) (by first | rfl | simp [d2, ds1_ints, ds1_app, ds1, d1, ds0_app, ds0_ints, ds0, d0]) rfl ?_
    refine O.move rfl rfl ?_
    refine O.extract rfl rfl rfl ?_
    refine O.extract rfl rfl rfl ?_
    refine O.alloc hE 13 T25 rfl rfl rfl ?_
    refine O.store hE T25 rfl rfl rfl rfl rfl rfl ?_
    refine O.assign rfl rfl ?_
    refine O.nil ?_
    try refine Run.keep [0,1,2,4,6,7,8,9,10,11,12,13,14,15,16,17,18,28] rfl rfl ?_
    repeat (first | refine Run.seq ?_ | refine Run.skip ?_ | refine Run.block ?_)
    refine Run.region ?_
    refine O.load hE T28 rfl rfl rfl rfl ?_
    refine O.callE o1 rfl (by first | rfl | simp [closed, men3, mens2_app, mens2_ints, mens2, men2, men1, mens1_app, mens1_ints, mens1]) (by first | rfl | simp [d2, ds1_ints, ds1_app, ds1, d1, ds0_app, ds0_ints, ds0, d0]) rfl ?_
    refine O.move rfl rfl ?_
    refine O.move rfl rfl ?_
    refine O.callE e2 rfl (by first | rfl | simp [closed, men3, mens2_app, mens2_ints, mens2, men2, men1, mens1_app, mens1_ints, mens1]) (by first | rfl | simp [d2, ds1_ints, ds1_app, ds1, d1, ds0_app, ds0_ints, ds0, d0]) rfl ?_
    refine O.move rfl rfl ?_
    refine O.extract rfl rfl rfl ?_
    refine O.extract rfl rfl rfl ?_
    refine O.alloc hE 15 T25 rfl rfl rfl ?_
    refine O.store hE T25 rfl rfl rfl rfl rfl rfl ?_
    refine O.assign rfl rfl ?_
    refine O.nil ?_
    try refine Run.keep [0,1,2,4,6,7,8,9,10,11,12,13,14,15,16,17,18,28] rfl rfl ?_
    repeat (first | refine Run.seq ?_ | refine Run.skip ?_ | refine Run.block ?_)
    refine Run.draw mixed rfl ?_
    refine D.load hE T28 rfl rfl rfl rfl ?_
    refine D.callE n7 rfl (by first | rfl | simp [closed, men3, mens2_app, mens2_ints, mens2, men2, men1, mens1_app, mens1_ints, mens1]) (by first | rfl | simp [d2, ds1_ints, ds1_app, ds1, d1, ds0_app, ds0_ints, ds0, d0]) rfl ?_
    refine D.callE o2 rfl (by first | rfl | simp [closed, men3, mens2_app, mens2_ints, mens2, men2, men1, mens1_app, mens1_ints, mens1]) (by first | rfl | simp [d2, ds1_ints, ds1_app, ds1, d1, ds0_app, ds0_ints, ds0, d0]) rfl ?_
    refine D.move rfl rfl ?_
    refine D.move rfl rfl ?_
    refine D.callE e3 rfl (by first | rfl | simp [closed, men3, mens2_app, mens2_ints, mens2, men2, men1, mens1_app, mens1_ints, mens1]) (by first | rfl | simp [d2, ds1_ints, ds1_app, ds1, d1, ds0_app, ds0_ints, ds0, d0]) rfl ?_
    refine D.move rfl rfl ?_
    refine D.extract rfl rfl rfl ?_
    refine D.extract rfl rfl rfl ?_
    refine D.alloc hE 17 T25 rfl rfl rfl ?_
    refine D.store hE T25 rfl rfl rfl rfl rfl rfl ?_
    refine D.assign rfl rfl ?_
    refine Dr.nil ?_
    refine ⟨rfl, ?_⟩
    try refine Run.keep [0,1,2,4,6,7,8,9,10,11,12,13,14,15,16,17,18,28] rfl rfl ?_
    repeat (first | refine Run.seq ?_ | refine Run.skip ?_ | refine Run.block ?_)
    refine Run.region ?_
    refine O.move rfl rfl ?_
    first | refine O.cmp rfl rfl rfl (by first | exact dT (by omega) | exact dF (by omega)) rfl ?_ | refine O.cmp rfl rfl rfl rfl rfl ?_
    refine O.move rfl rfl ?_
    first | (refine O.yes rfl rfl (by trivial) ?_; refine O.move rfl rfl ?_) | refine O.no rfl rfl rfl rfl ?_
    first | (refine O.yes rfl rfl (by trivial) ?_; first | refine O.cmp rfl rfl rfl (by first | exact dT (by omega) | exact dF (by omega)) rfl ?_ | refine O.cmp rfl rfl rfl rfl rfl ?_) | refine O.no rfl rfl rfl rfl ?_
    refine O.pick rfl rfl rfl rfl rfl ?_
    refine O.move rfl rfl ?_
    first | (refine O.yes rfl rfl (by trivial) ?_; refine O.move rfl rfl ?_) | refine O.no rfl rfl rfl rfl ?_
    first | (refine O.yes rfl rfl (by trivial) ?_; first | refine O.cmp rfl rfl rfl (by first | exact dT (by omega) | exact dF (by omega)) rfl ?_ | refine O.cmp rfl rfl rfl rfl rfl ?_) | refine O.no rfl rfl rfl rfl ?_
    refine O.pick rfl rfl rfl rfl rfl ?_
    refine O.move rfl rfl ?_
    first | (refine O.yes rfl rfl (by trivial) ?_; refine O.load hE T25 rfl rfl rfl rfl ?_) | refine O.no rfl rfl rfl rfl ?_
    first | (refine O.yes rfl rfl (by trivial) ?_; refine O.build hE T25 L25 rfl rfl rfl ?_) | refine O.no rfl rfl rfl rfl ?_
    first | (refine O.yes rfl rfl (by trivial) ?_; refine O.eqAggW rfl rfl rfl rfl (by kernel_rfl) (eq_vlW v0 v0) s0 rfl ?_) | refine O.no rfl rfl rfl rfl ?_
    refine O.pick rfl rfl rfl rfl rfl ?_
    refine O.move rfl rfl ?_
    first | (refine O.yes rfl rfl (by trivial) ?_; refine O.load hE T25 rfl rfl rfl rfl ?_) | refine O.no rfl rfl rfl rfl ?_
    first | (refine O.yes rfl rfl (by trivial) ?_; refine O.build hE T25 L25 rfl rfl rfl ?_) | refine O.no rfl rfl rfl rfl ?_
    first | (refine O.yes rfl rfl (by trivial) ?_; refine O.eqAggW rfl rfl rfl rfl (by kernel_rfl) (eq_vlW ⟨1, 1, 0, noS⟩ ⟨1, 1, 0, noS⟩) s1 rfl ?_) | refine O.no rfl rfl rfl rfl ?_
    refine O.pick rfl rfl rfl rfl rfl ?_
    refine O.move rfl rfl ?_
    first | (refine O.yes rfl rfl (by trivial) ?_; refine O.load hE T25 rfl rfl rfl rfl ?_) | refine O.no rfl rfl rfl rfl ?_
    first | (refine O.yes rfl rfl (by trivial) ?_; refine O.build hE T25 L25 rfl rfl rfl ?_) | refine O.no rfl rfl rfl rfl ?_
    first | (refine O.yes rfl rfl (by trivial) ?_; refine O.eqAggW rfl rfl rfl rfl (by kernel_rfl) (eq_vlW ⟨2, 7, 0, noS⟩ ⟨2, 7, 0, noS⟩) s7 rfl ?_) | refine O.no rfl rfl rfl rfl ?_
    refine O.pick rfl rfl rfl rfl rfl ?_
    refine O.assign rfl rfl ?_
    refine O.nil ?_
    try refine Run.keep [0,1,2,4,6,7,8,9,10,11,12,13,14,15,16,17,18,28] rfl rfl ?_
    (repeat (first | refine Run.seq ?_ | refine Run.skip ?_)); (try refine Run.ret ?_); first | exact Ends.flat hE (.inr rfl) rfl rfl (AVle.of_eq rfl) rfl | exact Ends.flat hE (.inl rfl) rfl rfl (AVle.of_eq rfl) rfl
end Go.Proofs.YtdigejpgjnhclaaDoor.Vm
