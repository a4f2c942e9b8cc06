/- Heaps of raw things: a leaf of an expression, the columns, a heap made. Conditions: none. -/
import Derived.Test.YtdigejpgjnhclaaDoorKindG
namespace Go.Proofs.YtdigejpgjnhclaaDoor.Vm
open Go Go.RowKit Go.Lib
set_option linter.unusedVariables false
set_option linter.unusedSimpArgs false
attribute [local irreducible] Ops Dr Run
/-- A function to which boxes are lent, of which some result is told. -/
theorem FnL.ofEx {E : Env} {f : FuncId} {fn : Func} {c : Code} {args : List AV} {bi bo : List (Nat × Box)} {tm : List (Nat × AV)} {Q : AV → Prop} (hf : E.P.funcs[f]? = some fn) (hc : fn.body = some c) (hname : (fn.name == "runtime.NumGoroutine") = false) (hn : Nat.ble args.length fn.ntmps = true) (htm : params 0 args = tm)
    (h : Run E.P E.g c ⟨fn.ntmps, tm, bi⟩ (fun x s => ∃ r, Q r ∧ Ends E.P fn r bo x s)) : ∃ r, Q r ∧ FnL E f args bi r bo := by
  obtain ⟨x, s', h1, r, hq, he⟩ := (show ∃ x s', _ from by unfold Run at h; exact h)
  exact ⟨r, hq, FnL.of hf hc hname hn htm (by unfold Run; exact ⟨x, s', h1, he⟩)⟩
section
variable {E : Env} {n : Nat} {tm : List (Nat × AV)} {bx : List (Nat × Box)} {ops : Array Oper} {l : List Oper} {d : Tmp} {ty : TypeId} {pos : String} {after : Array Edge}
/-- Whatever is assigned, nothing is told of it. -/
theorem O.assignN {Θ : St → Prop} {y : Operand} (hd : Nat.blt d n = true) (h : Ops E.P E.g ops l ⟨n, (d, .any) :: tm, bx⟩ Θ) : Ops E.P E.g ops (⟨some d, .assign y, ty, pos, after, none⟩ :: l) ⟨n, tm, bx⟩ Θ :=
  Ops.op rfl (OpOk.val (o := ⟨some d, .assign y, ty, pos, after, none⟩) (dlt hd) (fun cx a w G hP hg hs => ⟨a.eval y, rfl, .any _⟩)) h
end
theorem and_max {a : Int} (h : -9223372036854775808 ≤ a ∧ a ≤ 9223372036854775807) : ∃ q : Int, bitI .and .i64 a 9223372036854775807 = some q ∧ 0 ≤ q ∧ q ≤ 9223372036854775807 := by
  have h0 : bitI .and .i64 a 9223372036854775807 = some (IntKind.i64.wrap ((BitVec.ofInt 64 a &&& BitVec.ofInt 64 9223372036854775807).toNat : Int)) := rfl
  refine ⟨_, h0, ?_⟩
  have h1 : (BitVec.ofInt 64 a &&& BitVec.ofInt 64 9223372036854775807).toNat ≤ 9223372036854775807 := by
    rw [BitVec.toNat_and]
    refine Nat.le_trans Nat.and_le_right ?_
    decide
  rw [wrap_i64 (by omega) (by omega)]
  omega
variable {g : Nat → Option (List PV)}
theorem good_int {v : Vl} (h : Good v) (hk : v.kd = 2) : ∃ n, v = ⟨2, n, 0, noS⟩ ∧ (-9223372036854775808 ≤ n ∧ n ≤ 9223372036854775807) := by
  cases h with
  | int n hn => exact ⟨n, rfl, hn⟩
  | null => cases hk
  | bool => cases hk
  | real => cases hk
  | text => cases hk
theorem good_nn {v : Vl} (h : Good v) (hk : v.kd ≠ 2) : 0 ≤ v.n := by
  cases h with
  | int n hn => exact absurd rfl hk
  | null => decide
  | bool n hn => show 0 ≤ n; omega
  | real => exact Int.le_refl 0
  | text => exact Int.le_refl 0
theorem leaf_ex {rs : List Rw} {cs : List Kol} (hcs : ColsOk cs) {k : Int} (hk : 1 ≤ k ∧ k ≤ 4) {r : Rw} (hr : RwOk r) {m : Int} : ∃ x : Xp, Ty cs k x ∧ x.dp = 1 ∧
    FnL (EnL Tryd.prog g [200]) 41 [.ptr 200 0, .pv (.int .i64 k), rwA r] [(200, hpV rs m cs)] (xA x) [(200, hpV rs m cs)] := by
  have hE := EnLOk g [200]
  suffices h : ∃ w, (∃ x : Xp, (Ty cs k x ∧ x.dp = 1) ∧ w = xA x) ∧ FnL (EnL Tryd.prog g [200]) 41 [.ptr 200 0, .pv (.int .i64 k), rwA r] [(200, hpV rs m cs)] w [(200, hpV rs m cs)] by
    obtain ⟨_, ⟨x, h1, rfl⟩, h2⟩ := h
    exact ⟨x, h1.1, h1.2, h2⟩
  have hlen := hcs.len
  have hlm : (cs.map kolE).length = cs.length := by simp
  obtain ⟨v, hv, hvk, cv⟩ := valOf_exK (g := g) hr (kd := k) (by omega) (by omega)
  have c1 := fun (j : Nat) (hj : j ≤ 5) => (fnPick (g := g) (a := r.a) (m := 2 + (j : Int)) (by omega) (by omega)).lent [200]
  have c9 := (fnPick (g := g) (a := r.b) (m := 9) (by omega) (by omega)).lent [200]
  have c4 := (fnPick (g := g) (a := r.b) (m := 4) (by omega) (by omega)).lent [200]
  have c20 := (fnPick (g := g) (a := r.a) (m := 20) (by omega) (by omega)).lent [200]
  have cv := cv.lent [200]
  obtain ⟨qm, hqm, hq0, hq1⟩ := and_max hr
  have h20 : 0 ≤ r.a % 20 ∧ r.a % 20 < 20 := by omega
  generalize r.a % 20 = z20 at *
  generalize r.b % 9 = z9 at *
  generalize r.b % 4 = z4 at *
  obtain ⟨rk, ra, rb, rt⟩ := r
  dsimp only at c1 cv hqm ⊢
  refine FnL.ofEx Tryd.func41 rfl rfl rfl rfl ?_
  repeat (first | refine Run.seq ?_ | refine Run.skip ?_ | refine Run.block ?_)
  refine Run.region ?_
  refine O.box 5 rfl (by first | rfl | exact cells_ones (by simp [ones_app, ones_ints, ones, AV.one, PV.one])) rfl rfl ?_
  refine O.alloc hE 6 T28 rfl rfl rfl ?_
  refine O.nil ?_
  try refine Run.keep [0,1,2,5,6,7,8,9,13,14,15,16,31,39,45,58] rfl rfl ?_
  repeat (first | refine Run.seq ?_ | refine Run.skip ?_ | refine Run.block ?_)
  refine Run.region ?_
  refine O.move rfl rfl ?_
  refine O.nilCheck rfl rfl ?_
  refine O.field hE L60 rfl rfl rfl rfl ?_
  first | refine O.loadS hE T29 rfl rfl rfl (by rfl) rfl ?_ | refine O.loadE hE T29 rfl rfl (by rfl) rfl ?_ | refine O.load hE T29 rfl rfl rfl rfl ?_
  first | refine O.lenN hE T29 rfl rfl rfl (by first | exact newest_pv | exact newest_gl rfl rfl | trivial) lenC rfl ?_ | refine O.lenLst hE T29 rfl rfl rfl (by first | exact newest_pv | exact newest_gl rfl rfl | trivial) rfl ?_
  refine O.move rfl rfl ?_
  refine O.nil ?_
  try refine Run.keep [0,1,2,5,6,7,8,9,13,14,15,16,31,39,45,58] rfl rfl ?_
  repeat (first | refine Run.seq ?_ | refine Run.skip ?_)
  refine Run.block ?_
  refine Run.loopInv (ι := Nat) (fun j => j ≤ cs.length)
    (fun j => ⟨67, [(0, .ptr 200 0), (1, .pv (.int .i64 k)), (5, .ptr 5 0), (6, .ptr 6 0), (13, .pv (.lst 3 (cs.map kolE))), (14, .pv (.int .i64 cs.length)), (15, .pv (.int .i64 j))], [(200, hpV rs m cs), (6, .var [.pv (.int .i64 0), .pv (.int .i64 0), .pv (.int .i64 0), .pv (.int .u64 0), .pv (.str noS), .pv (.str noS), .pv .nil]), (5, .var [.pv (.int .i64 rk), .pv (.int .i64 ra), .pv (.int .i64 rb), .pv (.str rt)])]⟩) (fun j => cs.length - j) 0 (by omega) ?_ ?_
  ·
    exact SLe.drop (by repeat (first | exact TmIn.nil | refine TmIn.cons rfl ?_)) (by repeat (first | exact BxIn.nil | refine BxIn.cons rfl ?_)) rfl rfl
  rintro j hj ih
  by_cases hlt : j < cs.length
  ·
    obtain ⟨c, hc⟩ : ∃ c, cs[j]? = some c := ⟨_, List.getElem?_eq_getElem hlt⟩
    have hat := kol_at hc
    have hmem := List.mem_of_getElem? hc
    have hfc := findC_mem hcs.ap c hmem
    have hnm := (hcs.ok c hmem).1
    have c1 := c1 j (by omega)
    generalize ra % (2 + (j : Int)) = z at *
    obtain ⟨ck, ckd, cnl⟩ := c
    dsimp only [kolE] at hat
    dsimp only at hfc hnm
    by_cases hkk : ckd = k
    ·
      by_cases hz : z = 0
      ·
        repeat (first | refine Run.seq ?_ | refine Run.skip ?_ | refine Run.block ?_)
        refine Run.region ?_
        first | refine O.cmp rfl rfl rfl (by first | exact dT (by omega) | exact dF (by omega)) rfl ?_ | refine O.cmp rfl rfl rfl rfl rfl ?_
        refine O.nil ?_
        try refine Run.keep [0,1,2,5,6,7,8,9,13,14,15,16,31,39,45,58] rfl rfl ?_
        repeat (first | refine Run.seq ?_ | refine Run.skip ?_)
        first | refine Run.condT rfl rfl ?_ | refine Run.condF rfl rfl ?_ | refine Run.condT rfl (by assumption) ?_ | refine Run.condF rfl (by assumption) ?_
        repeat (first | refine Run.seq ?_ | refine Run.skip ?_ | refine Run.block ?_)
        refine Run.region ?_
        refine O.move rfl rfl ?_
        refine O.index hE T29 rfl T37 rfl rfl (by first | exact newest_pv | exact newest_gl rfl rfl | trivial) rfl (by omega) (by first | assumption | rfl) rfl rfl rfl ?_
        refine O.load hE T37 rfl rfl rfl rfl ?_
        refine O.alloc hE 8 T37 rfl rfl rfl ?_
        refine O.assign rfl rfl ?_
        refine O.store hE T37 rfl rfl rfl rfl rfl rfl ?_
        refine O.nil ?_
        try refine Run.keep [0,1,2,5,6,7,8,9,13,14,15,16,31,39,45,58] rfl rfl ?_
        repeat (first | refine Run.seq ?_ | refine Run.skip ?_ | refine Run.block ?_)
        refine Run.region ?_
        refine O.field hE L37 rfl rfl rfl rfl ?_
        first | refine O.loadS hE T3 rfl rfl rfl (by rfl) rfl ?_ | refine O.loadE hE T3 rfl rfl (by rfl) rfl ?_ | refine O.load hE T3 rfl rfl rfl rfl ?_
        refine O.move rfl rfl ?_
        first | refine O.cmp rfl rfl rfl (by first | exact dT (by omega) | exact dF (by omega)) rfl ?_ | refine O.cmp rfl rfl rfl rfl rfl ?_
        refine O.move rfl rfl ?_
        first | (refine O.yes rfl rfl (by trivial) ?_; refine O.field hE L51 rfl rfl rfl rfl ?_) | refine O.no rfl rfl rfl rfl ?_
        first | (refine O.yes rfl rfl (by trivial) ?_; first | refine O.loadS hE T3 rfl rfl rfl (by rfl) rfl ?_ | refine O.loadE hE T3 rfl rfl (by rfl) rfl ?_ | refine O.load hE T3 rfl rfl rfl rfl ?_) | refine O.no rfl rfl rfl rfl ?_
        first | (refine O.yes rfl rfl (by trivial) ?_; refine O.move rfl rfl ?_) | refine O.no rfl rfl rfl rfl ?_
        first | (refine O.yes rfl rfl (by trivial) ?_; first | refine O.ar rfl rfl rfl (by exact wrap_i64 (by omega) (by omega)) rfl ?_ | refine O.ar rfl rfl rfl rfl rfl ?_) | refine O.no rfl rfl rfl rfl ?_
        first | (refine O.yes rfl rfl (by trivial) ?_; refine O.callE c1 rfl (by first | rfl | simp [closed, men3, mens2_app, mens2_ints, mens2, men2, men1, mens1_app, mens1_ints, mens1]) (by first | rfl | simp [d2, ds1_ints, ds1_app, ds1, d1, ds0_app, ds0_ints, ds0, d0]) rfl ?_) | refine O.no rfl rfl rfl rfl ?_
        first | (refine O.yes rfl rfl (by trivial) ?_; first | refine O.cmp rfl rfl rfl (by first | exact dT (by omega) | exact dF (by omega)) rfl ?_ | refine O.cmp rfl rfl rfl rfl rfl ?_) | refine O.no rfl rfl rfl rfl ?_
        refine O.pick rfl rfl rfl rfl rfl ?_
        refine O.nil ?_
        try refine Run.keep [0,1,2,5,6,7,8,9,13,14,15,16,31,39,45,58] rfl rfl ?_
        repeat (first | refine Run.seq ?_ | refine Run.skip ?_)
        first | refine Run.condT rfl rfl ?_ | refine Run.condF rfl rfl ?_ | refine Run.condT rfl (by assumption) ?_ | refine Run.condF rfl (by assumption) ?_
        repeat (first | refine Run.seq ?_ | refine Run.skip ?_ | refine Run.block ?_)
        refine Run.region ?_
        refine O.field hE L37 rfl rfl rfl rfl ?_
        first | refine O.loadS hE T9 rfl rfl rfl (by rfl) rfl ?_ | refine O.loadE hE T9 rfl rfl (by rfl) rfl ?_ | refine O.load hE T9 rfl rfl rfl rfl ?_
        refine O.build hE T28 L28 rfl rfl rfl ?_
        refine O.store hE T28 rfl rfl rfl rfl rfl rfl ?_
        refine O.nil ?_
        try refine Run.keep [0,1,2,5,6,7,8,9,13,14,15,16,31,39,45,58] rfl rfl ?_
        refine Run.ret ?_
        repeat (first | refine thenR_ret ?_ | refine roundR_ret ?_ | refine blockR_ret ?_)
        exact ⟨_, ⟨.col ck, ⟨by rw [← hkk]; exact Ty.col (c := ⟨ck, ckd, cnl⟩) hfc hnm, rfl⟩, rfl⟩, Ends.of hE (.inr rfl) rfl rfl (SLe.by rfl (TmLe.cons (AVle.aggs (by repeat (first | exact AVles.nil | refine AVles.cons (AVle.of_eq rfl) ?_ | refine AVles.cons (AVle.nil _) ?_))) TmLe.nil) (BxsLe.cons rfl (.refl _) BxsLe.nil) rfl rfl)⟩
      ·
        repeat (first | refine Run.seq ?_ | refine Run.skip ?_ | refine Run.block ?_)
        refine Run.region ?_
        first | refine O.cmp rfl rfl rfl (by first | exact dT (by omega) | exact dF (by omega)) rfl ?_ | refine O.cmp rfl rfl rfl rfl rfl ?_
        refine O.nil ?_
        try refine Run.keep [0,1,2,5,6,7,8,9,13,14,15,16,31,39,45,58] rfl rfl ?_
        repeat (first | refine Run.seq ?_ | refine Run.skip ?_)
        first | refine Run.condT rfl rfl ?_ | refine Run.condF rfl rfl ?_ | refine Run.condT rfl (by assumption) ?_ | refine Run.condF rfl (by assumption) ?_
        repeat (first | refine Run.seq ?_ | refine Run.skip ?_ | refine Run.block ?_)
        refine Run.region ?_
        refine O.move rfl rfl ?_
        refine O.index hE T29 rfl T37 rfl rfl (by first | exact newest_pv | exact newest_gl rfl rfl | trivial) rfl (by omega) (by first | assumption | rfl) rfl rfl rfl ?_
        refine O.load hE T37 rfl rfl rfl rfl ?_
        refine O.alloc hE 8 T37 rfl rfl rfl ?_
        refine O.assign rfl rfl ?_
        refine O.store hE T37 rfl rfl rfl rfl rfl rfl ?_
        refine O.nil ?_
        try refine Run.keep [0,1,2,5,6,7,8,9,13,14,15,16,31,39,45,58] rfl rfl ?_
        repeat (first | refine Run.seq ?_ | refine Run.skip ?_ | refine Run.block ?_)
        refine Run.region ?_
        refine O.field hE L37 rfl rfl rfl rfl ?_
        first | refine O.loadS hE T3 rfl rfl rfl (by rfl) rfl ?_ | refine O.loadE hE T3 rfl rfl (by rfl) rfl ?_ | refine O.load hE T3 rfl rfl rfl rfl ?_
        refine O.move rfl rfl ?_
        first | refine O.cmp rfl rfl rfl (by first | exact dT (by omega) | exact dF (by omega)) rfl ?_ | refine O.cmp rfl rfl rfl rfl rfl ?_
        refine O.move rfl rfl ?_
        first | (refine O.yes rfl rfl (by trivial) ?_; refine O.field hE L51 rfl rfl rfl rfl ?_) | refine O.no rfl rfl rfl rfl ?_
        first | (refine O.yes rfl rfl (by trivial) ?_; first | refine O.loadS hE T3 rfl rfl rfl (by rfl) rfl ?_ | refine O.loadE hE T3 rfl rfl (by rfl) rfl ?_ | refine O.load hE T3 rfl rfl rfl rfl ?_) | refine O.no rfl rfl rfl rfl ?_
        first | (refine O.yes rfl rfl (by trivial) ?_; refine O.move rfl rfl ?_) | refine O.no rfl rfl rfl rfl ?_
        first | (refine O.yes rfl rfl (by trivial) ?_; first | refine O.ar rfl rfl rfl (by exact wrap_i64 (by omega) (by omega)) rfl ?_ | refine O.ar rfl rfl rfl rfl rfl ?_) | refine O.no rfl rfl rfl rfl ?_
        first | (refine O.yes rfl rfl (by trivial) ?_; refine O.callE c1 rfl (by first | rfl | simp [closed, men3, mens2_app, mens2_ints, mens2, men2, men1, mens1_app, mens1_ints, mens1]) (by first | rfl | simp [d2, ds1_ints, ds1_app, ds1, d1, ds0_app, ds0_ints, ds0, d0]) rfl ?_) | refine O.no rfl rfl rfl rfl ?_
        first | (refine O.yes rfl rfl (by trivial) ?_; first | refine O.cmp rfl rfl rfl (by first | exact dT (by omega) | exact dF (by omega)) rfl ?_ | refine O.cmp rfl rfl rfl rfl rfl ?_) | refine O.no rfl rfl rfl rfl ?_
        refine O.pick rfl rfl rfl rfl rfl ?_
        refine O.nil ?_
        try refine Run.keep [0,1,2,5,6,7,8,9,13,14,15,16,31,39,45,58] rfl rfl ?_
        repeat (first | refine Run.seq ?_ | refine Run.skip ?_)
        first | refine Run.condT rfl rfl ?_ | refine Run.condF rfl rfl ?_ | refine Run.condT rfl (by assumption) ?_ | refine Run.condF rfl (by assumption) ?_
        repeat (first | refine Run.seq ?_ | refine Run.skip ?_ | refine Run.block ?_)
        refine Run.region ?_
        first | refine O.ar rfl rfl rfl (by exact wrap_i64 (by omega) (by omega)) rfl ?_ | refine O.ar rfl rfl rfl rfl rfl ?_
        refine O.move rfl rfl ?_
        refine O.nil ?_
        try refine Run.keep [0,1,2,5,6,7,8,9,13,14,15,16,31,39,45,58] rfl rfl ?_
        refine ih (j + 1) _ ?_ (by omega) (by omega)
        exact SLe.drop (by repeat (first | exact TmIn.nil | refine TmIn.cons rfl ?_)) (by repeat (first | exact BxIn.nil | refine BxIn.cons rfl ?_)) rfl rfl
    ·
      repeat (first | refine Run.seq ?_ | refine Run.skip ?_ | refine Run.block ?_)
      refine Run.region ?_
      first | refine O.cmp rfl rfl rfl (by first | exact dT (by omega) | exact dF (by omega)) rfl ?_ | refine O.cmp rfl rfl rfl rfl rfl ?_
      refine O.nil ?_
      try refine Run.keep [0,1,2,5,6,7,8,9,13,14,15,16,31,39,45,58] rfl rfl ?_
      repeat (first | refine Run.seq ?_ | refine Run.skip ?_)
      first | refine Run.condT rfl rfl ?_ | refine Run.condF rfl rfl ?_ | refine Run.condT rfl (by assumption) ?_ | refine Run.condF rfl (by assumption) ?_
      repeat (first | refine Run.seq ?_ | refine Run.skip ?_ | refine Run.block ?_)
      refine Run.region ?_
      refine O.move rfl rfl ?_
      refine O.index hE T29 rfl T37 rfl rfl (by first | exact newest_pv | exact newest_gl rfl rfl | trivial) rfl (by omega) (by first | assumption | rfl) rfl rfl rfl ?_
      refine O.load hE T37 rfl rfl rfl rfl ?_
      refine O.alloc hE 8 T37 rfl rfl rfl ?_
      refine O.assign rfl rfl ?_
      refine O.store hE T37 rfl rfl rfl rfl rfl rfl ?_
      refine O.nil ?_
      try refine Run.keep [0,1,2,5,6,7,8,9,13,14,15,16,31,39,45,58] rfl rfl ?_
      repeat (first | refine Run.seq ?_ | refine Run.skip ?_ | refine Run.block ?_)
      refine Run.region ?_
      refine O.field hE L37 rfl rfl rfl rfl ?_
      first | refine O.loadS hE T3 rfl rfl rfl (by rfl) rfl ?_ | refine O.loadE hE T3 rfl rfl (by rfl) rfl ?_ | refine O.load hE T3 rfl rfl rfl rfl ?_
      refine O.move rfl rfl ?_
      first | refine O.cmp rfl rfl rfl (by first | exact dT (by omega) | exact dF (by omega)) rfl ?_ | refine O.cmp rfl rfl rfl rfl rfl ?_
      refine O.move rfl rfl ?_
      first | (refine O.yes rfl rfl (by trivial) ?_; refine O.field hE L51 rfl rfl rfl rfl ?_) | refine O.no rfl rfl rfl rfl ?_
      first | (refine O.yes rfl rfl (by trivial) ?_; first | refine O.loadS hE T3 rfl rfl rfl (by rfl) rfl ?_ | refine O.loadE hE T3 rfl rfl (by rfl) rfl ?_ | refine O.load hE T3 rfl rfl rfl rfl ?_) | refine O.no rfl rfl rfl rfl ?_
      first | (refine O.yes rfl rfl (by trivial) ?_; refine O.move rfl rfl ?_) | refine O.no rfl rfl rfl rfl ?_
      first | (refine O.yes rfl rfl (by trivial) ?_; first | refine O.ar rfl rfl rfl (by exact wrap_i64 (by omega) (by omega)) rfl ?_ | refine O.ar rfl rfl rfl rfl rfl ?_) | refine O.no rfl rfl rfl rfl ?_
      first | (refine O.yes rfl rfl (by trivial) ?_; refine O.no rfl rfl rfl rfl ?_) | refine O.no rfl rfl rfl rfl ?_
      first | (refine O.yes rfl rfl (by trivial) ?_; first | refine O.cmp rfl rfl rfl (by first | exact dT (by omega) | exact dF (by omega)) rfl ?_ | refine O.cmp rfl rfl rfl rfl rfl ?_) | refine O.no rfl rfl rfl rfl ?_
      refine O.pick rfl rfl rfl rfl rfl ?_
      refine O.nil ?_
      try refine Run.keep [0,1,2,5,6,7,8,9,13,14,15,16,31,39,45,58] rfl rfl ?_
      repeat (first | refine Run.seq ?_ | refine Run.skip ?_)
      first | refine Run.condT rfl rfl ?_ | refine Run.condF rfl rfl ?_ | refine Run.condT rfl (by assumption) ?_ | refine Run.condF rfl (by assumption) ?_
      repeat (first | refine Run.seq ?_ | refine Run.skip ?_ | refine Run.block ?_)
      refine Run.region ?_
      first | refine O.ar rfl rfl rfl (by exact wrap_i64 (by omega) (by omega)) rfl ?_ | refine O.ar rfl rfl rfl rfl rfl ?_
      refine O.move rfl rfl ?_
      refine O.nil ?_
      try refine Run.keep [0,1,2,5,6,7,8,9,13,14,15,16,31,39,45,58] rfl rfl ?_
      refine ih (j + 1) _ ?_ (by omega) (by omega)
      exact SLe.drop (by repeat (first | exact TmIn.nil | refine TmIn.cons rfl ?_)) (by repeat (first | exact BxIn.nil | refine BxIn.cons rfl ?_)) rfl rfl
  have hj' : j = cs.length := by omega
  subst hj'
  clear c1
  repeat (first | refine Run.seq ?_ | refine Run.skip ?_ | refine Run.block ?_)
  refine Run.region ?_
  first | refine O.cmp rfl rfl rfl (by first | exact dT (by omega) | exact dF (by omega)) rfl ?_ | refine O.cmp rfl rfl rfl rfl rfl ?_
  refine O.nil ?_
  try refine Run.keep [0,1,2,5,6,7,8,9,13,14,15,16,31,39,45,58] rfl rfl ?_
  repeat (first | refine Run.seq ?_ | refine Run.skip ?_)
  first | refine Run.condT rfl rfl ?_ | refine Run.condF rfl rfl ?_ | refine Run.condT rfl (by assumption) ?_ | refine Run.condF rfl (by assumption) ?_
  refine Run.exit ?_
  repeat (first | refine thenR_exit ?_ | refine roundR_exit ?_ | refine blockR_exit ?_ | refine blockR_pass rfl ?_)
  by_cases h9 : z9 = 0
  ·
    obtain ⟨vk, vn, vb, vs⟩ := v
    dsimp only [vlA] at cv
    repeat (first | refine Run.seq ?_ | refine Run.skip ?_ | refine Run.block ?_)
    refine Run.region ?_
    refine O.move rfl rfl ?_
    refine O.load hE T51 rfl rfl rfl rfl ?_
    refine O.callE cv rfl (by first | rfl | simp [closed, men3, mens2_app, mens2_ints, mens2, men2, men1, mens1_app, mens1_ints, mens1]) (by first | rfl | simp [d2, ds1_ints, ds1_app, ds1, d1, ds0_app, ds0_ints, ds0, d0]) rfl ?_
    refine O.alloc hE 9 T25 rfl rfl rfl ?_
    refine O.store hE T25 rfl rfl rfl rfl rfl rfl ?_
    refine O.nil ?_
    try refine Run.keep [0,1,2,5,6,7,8,9,13,14,15,16,31,39,45,58] rfl rfl ?_
    repeat (first | refine Run.seq ?_ | refine Run.skip ?_ | refine Run.block ?_)
    refine Run.region ?_
    refine O.field hE L51 rfl rfl rfl rfl ?_
    first | refine O.loadS hE T3 rfl rfl rfl (by rfl) rfl ?_ | refine O.loadE hE T3 rfl rfl (by rfl) rfl ?_ | refine O.load hE T3 rfl rfl rfl rfl ?_
    refine O.callE c9 rfl (by first | rfl | simp [closed, men3, mens2_app, mens2_ints, mens2, men2, men1, mens1_app, mens1_ints, mens1]) (by first | rfl | simp [d2, ds1_ints, ds1_app, ds1, d1, ds0_app, ds0_ints, ds0, d0]) rfl ?_
    first | refine O.cmp rfl rfl rfl (by first | exact dT (by omega) | exact dF (by omega)) rfl ?_ | refine O.cmp rfl rfl rfl rfl rfl ?_
    refine O.assign rfl rfl ?_
    refine O.nil ?_
    try refine Run.keep [0,1,2,5,6,7,8,9,13,14,15,16,31,39,45,58] rfl rfl ?_
    repeat (first | refine Run.seq ?_ | refine Run.skip ?_)
    first | refine Run.condT rfl rfl ?_ | refine Run.condF rfl rfl ?_ | refine Run.condT rfl (by assumption) ?_ | refine Run.condF rfl (by assumption) ?_
    repeat (first | refine Run.seq ?_ | refine Run.skip ?_ | refine Run.block ?_)
    refine Run.region ?_
    refine O.build hE T25 L25 rfl rfl rfl ?_
    refine O.store hE T25 rfl rfl rfl rfl rfl rfl ?_
    refine O.nil ?_
    try refine Run.keep [0,1,2,5,6,7,8,9,13,14,15,16,31,39,45,58] rfl rfl ?_
    repeat (first | refine Run.seq ?_ | refine Run.skip ?_ | refine Run.block ?_)
    refine Run.region ?_
    refine O.load hE T25 rfl rfl rfl rfl ?_
    refine O.build hE T28 L28 rfl rfl rfl ?_
    refine O.store hE T28 rfl rfl rfl rfl rfl rfl ?_
    refine O.nil ?_
    try refine Run.keep [0,1,2,5,6,7,8,9,13,14,15,16,31,39,45,58] rfl rfl ?_
    refine Run.ret ?_
    exact ⟨_, ⟨.lit v0, ⟨.lit .null (by decide) (.inr rfl), rfl⟩, rfl⟩, Ends.of hE (.inr rfl) rfl rfl (SLe.by rfl (TmLe.cons (AVle.aggs (by repeat (first | exact AVles.nil | refine AVles.cons (AVle.of_eq rfl) ?_ | refine AVles.cons (AVle.nil _) ?_))) TmLe.nil) (BxsLe.cons rfl (.refl _) BxsLe.nil) rfl rfl)⟩
  by_cases hk2 : k = 2
  ·
    subst hk2
    obtain ⟨vn, rfl, hvn⟩ := good_int hv hvk
    by_cases h4 : z4 = 0
    ·
      repeat (first | refine Run.seq ?_ | refine Run.skip ?_ | refine Run.block ?_)
      refine Run.region ?_
      refine O.move rfl rfl ?_
      refine O.load hE T51 rfl rfl rfl rfl ?_
      refine O.callE cv rfl (by first | rfl | simp [closed, men3, mens2_app, mens2_ints, mens2, men2, men1, mens1_app, mens1_ints, mens1]) (by first | rfl | simp [d2, ds1_ints, ds1_app, ds1, d1, ds0_app, ds0_ints, ds0, d0]) rfl ?_
      refine O.alloc hE 9 T25 rfl rfl rfl ?_
      refine O.store hE T25 rfl rfl rfl rfl rfl rfl ?_
      refine O.nil ?_
      try refine Run.keep [0,1,2,5,6,7,8,9,13,14,15,16,31,39,45,58] rfl rfl ?_
      repeat (first | refine Run.seq ?_ | refine Run.skip ?_ | refine Run.block ?_)
      refine Run.region ?_
      refine O.field hE L51 rfl rfl rfl rfl ?_
      first | refine O.loadS hE T3 rfl rfl rfl (by rfl) rfl ?_ | refine O.loadE hE T3 rfl rfl (by rfl) rfl ?_ | refine O.load hE T3 rfl rfl rfl rfl ?_
      refine O.callE c9 rfl (by first | rfl | simp [closed, men3, mens2_app, mens2_ints, mens2, men2, men1, mens1_app, mens1_ints, mens1]) (by first | rfl | simp [d2, ds1_ints, ds1_app, ds1, d1, ds0_app, ds0_ints, ds0, d0]) rfl ?_
      first | refine O.cmp rfl rfl rfl (by first | exact dT (by omega) | exact dF (by omega)) rfl ?_ | refine O.cmp rfl rfl rfl rfl rfl ?_
      refine O.assign rfl rfl ?_
      refine O.nil ?_
      try refine Run.keep [0,1,2,5,6,7,8,9,13,14,15,16,31,39,45,58] rfl rfl ?_
      repeat (first | refine Run.seq ?_ | refine Run.skip ?_)
      first | refine Run.condT rfl rfl ?_ | refine Run.condF rfl rfl ?_ | refine Run.condT rfl (by assumption) ?_ | refine Run.condF rfl (by assumption) ?_
      repeat (first | refine Run.seq ?_ | refine Run.skip ?_ | refine Run.block ?_)
      refine Run.region ?_
      refine O.move rfl rfl ?_
      first | refine O.cmp rfl rfl rfl (by first | exact dT (by omega) | exact dF (by omega)) rfl ?_ | refine O.cmp rfl rfl rfl rfl rfl ?_
      refine O.move rfl rfl ?_
      first | (refine O.yes rfl rfl (by trivial) ?_; refine O.field hE L51 rfl rfl rfl rfl ?_) | refine O.no rfl rfl rfl rfl ?_
      first | (refine O.yes rfl rfl (by trivial) ?_; first | refine O.loadS hE T3 rfl rfl rfl (by rfl) rfl ?_ | refine O.loadE hE T3 rfl rfl (by rfl) rfl ?_ | refine O.load hE T3 rfl rfl rfl rfl ?_) | refine O.no rfl rfl rfl rfl ?_
      first | (refine O.yes rfl rfl (by trivial) ?_; refine O.callE c4 rfl (by first | rfl | simp [closed, men3, mens2_app, mens2_ints, mens2, men2, men1, mens1_app, mens1_ints, mens1]) (by first | rfl | simp [d2, ds1_ints, ds1_app, ds1, d1, ds0_app, ds0_ints, ds0, d0]) rfl ?_) | refine O.no rfl rfl rfl rfl ?_
      first | (refine O.yes rfl rfl (by trivial) ?_; first | refine O.cmp rfl rfl rfl (by first | exact dT (by omega) | exact dF (by omega)) rfl ?_ | refine O.cmp rfl rfl rfl rfl rfl ?_) | refine O.no rfl rfl rfl rfl ?_
      refine O.pick rfl rfl rfl rfl rfl ?_
      refine O.assign rfl rfl ?_
      refine O.nil ?_
      try refine Run.keep [0,1,2,5,6,7,8,9,13,14,15,16,31,39,45,58] rfl rfl ?_
      repeat (first | refine Run.seq ?_ | refine Run.skip ?_)
      first | refine Run.condT rfl rfl ?_ | refine Run.condF rfl rfl ?_ | refine Run.condT rfl (by assumption) ?_ | refine Run.condF rfl (by assumption) ?_
      repeat (first | refine Run.seq ?_ | refine Run.skip ?_ | refine Run.block ?_)
      refine Run.region ?_
      refine O.field hE L51 rfl rfl rfl rfl ?_
      first | refine O.loadS hE T3 rfl rfl rfl (by rfl) rfl ?_ | refine O.loadE hE T3 rfl rfl (by rfl) rfl ?_ | refine O.load hE T3 rfl rfl rfl rfl ?_
      refine O.bit rfl rfl hqm rfl ?_
      refine O.field hE L25 rfl rfl rfl rfl ?_
      refine O.store hE T3 rfl rfl rfl rfl rfl rfl ?_
      refine O.nil ?_
      try refine Run.keep [0,1,2,5,6,7,8,9,13,14,15,16,31,39,45,58] rfl rfl ?_
      repeat (first | refine Run.seq ?_ | refine Run.skip ?_ | refine Run.block ?_)
      refine Run.region ?_
      refine O.load hE T25 rfl rfl rfl rfl ?_
      refine O.build hE T28 L28 rfl rfl rfl ?_
      refine O.store hE T28 rfl rfl rfl rfl rfl rfl ?_
      refine O.nil ?_
      try refine Run.keep [0,1,2,5,6,7,8,9,13,14,15,16,31,39,45,58] rfl rfl ?_
      refine Run.ret ?_
      exact ⟨_, ⟨.lit ⟨2, qm, 0, noS⟩, ⟨.lit (.int qm ⟨by omega, by omega⟩) hq0 (.inl rfl), rfl⟩, rfl⟩, Ends.of hE (.inr rfl) rfl rfl (SLe.by rfl (TmLe.cons (AVle.aggs (by repeat (first | exact AVles.nil | refine AVles.cons (AVle.of_eq rfl) ?_ | refine AVles.cons (AVle.nil _) ?_))) TmLe.nil) (BxsLe.cons rfl (.refl _) BxsLe.nil) rfl rfl)⟩
    ·
      repeat (first | refine Run.seq ?_ | refine Run.skip ?_ | refine Run.block ?_)
      refine Run.region ?_
      refine O.move rfl rfl ?_
      refine O.load hE T51 rfl rfl rfl rfl ?_
      refine O.callE cv rfl (by first | rfl | simp [closed, men3, mens2_app, mens2_ints, mens2, men2, men1, mens1_app, mens1_ints, mens1]) (by first | rfl | simp [d2, ds1_ints, ds1_app, ds1, d1, ds0_app, ds0_ints, ds0, d0]) rfl ?_
      refine O.alloc hE 9 T25 rfl rfl rfl ?_
      refine O.store hE T25 rfl rfl rfl rfl rfl rfl ?_
      refine O.nil ?_
      try refine Run.keep [0,1,2,5,6,7,8,9,13,14,15,16,31,39,45,58] rfl rfl ?_
      repeat (first | refine Run.seq ?_ | refine Run.skip ?_ | refine Run.block ?_)
      refine Run.region ?_
      refine O.field hE L51 rfl rfl rfl rfl ?_
      first | refine O.loadS hE T3 rfl rfl rfl (by rfl) rfl ?_ | refine O.loadE hE T3 rfl rfl (by rfl) rfl ?_ | refine O.load hE T3 rfl rfl rfl rfl ?_
      refine O.callE c9 rfl (by first | rfl | simp [closed, men3, mens2_app, mens2_ints, mens2, men2, men1, mens1_app, mens1_ints, mens1]) (by first | rfl | simp [d2, ds1_ints, ds1_app, ds1, d1, ds0_app, ds0_ints, ds0, d0]) rfl ?_
      first | refine O.cmp rfl rfl rfl (by first | exact dT (by omega) | exact dF (by omega)) rfl ?_ | refine O.cmp rfl rfl rfl rfl rfl ?_
      refine O.assign rfl rfl ?_
      refine O.nil ?_
      try refine Run.keep [0,1,2,5,6,7,8,9,13,14,15,16,31,39,45,58] rfl rfl ?_
      repeat (first | refine Run.seq ?_ | refine Run.skip ?_)
      first | refine Run.condT rfl rfl ?_ | refine Run.condF rfl rfl ?_ | refine Run.condT rfl (by assumption) ?_ | refine Run.condF rfl (by assumption) ?_
      repeat (first | refine Run.seq ?_ | refine Run.skip ?_ | refine Run.block ?_)
      refine Run.region ?_
      refine O.move rfl rfl ?_
      first | refine O.cmp rfl rfl rfl (by first | exact dT (by omega) | exact dF (by omega)) rfl ?_ | refine O.cmp rfl rfl rfl rfl rfl ?_
      refine O.move rfl rfl ?_
      first | (refine O.yes rfl rfl (by trivial) ?_; refine O.field hE L51 rfl rfl rfl rfl ?_) | refine O.no rfl rfl rfl rfl ?_
      first | (refine O.yes rfl rfl (by trivial) ?_; first | refine O.loadS hE T3 rfl rfl rfl (by rfl) rfl ?_ | refine O.loadE hE T3 rfl rfl (by rfl) rfl ?_ | refine O.load hE T3 rfl rfl rfl rfl ?_) | refine O.no rfl rfl rfl rfl ?_
      first | (refine O.yes rfl rfl (by trivial) ?_; refine O.callE c4 rfl (by first | rfl | simp [closed, men3, mens2_app, mens2_ints, mens2, men2, men1, mens1_app, mens1_ints, mens1]) (by first | rfl | simp [d2, ds1_ints, ds1_app, ds1, d1, ds0_app, ds0_ints, ds0, d0]) rfl ?_) | refine O.no rfl rfl rfl rfl ?_
      first | (refine O.yes rfl rfl (by trivial) ?_; first | refine O.cmp rfl rfl rfl (by first | exact dT (by omega) | exact dF (by omega)) rfl ?_ | refine O.cmp rfl rfl rfl rfl rfl ?_) | refine O.no rfl rfl rfl rfl ?_
      refine O.pick rfl rfl rfl rfl rfl ?_
      refine O.assign rfl rfl ?_
      refine O.nil ?_
      try refine Run.keep [0,1,2,5,6,7,8,9,13,14,15,16,31,39,45,58] rfl rfl ?_
      repeat (first | refine Run.seq ?_ | refine Run.skip ?_)
      first | refine Run.condT rfl rfl ?_ | refine Run.condF rfl rfl ?_ | refine Run.condT rfl (by assumption) ?_ | refine Run.condF rfl (by assumption) ?_
      repeat (first | refine Run.seq ?_ | refine Run.skip ?_ | refine Run.block ?_)
      refine Run.region ?_
      refine O.move rfl rfl ?_
      first | refine O.cmp rfl rfl rfl (by first | exact dT (by omega) | exact dF (by omega)) rfl ?_ | refine O.cmp rfl rfl rfl rfl rfl ?_
      refine O.assign rfl rfl ?_
      refine O.nil ?_
      try refine Run.keep [0,1,2,5,6,7,8,9,13,14,15,16,31,39,45,58] rfl rfl ?_
      repeat (first | refine Run.seq ?_ | refine Run.skip ?_)
      first | refine Run.condT rfl rfl ?_ | refine Run.condF rfl rfl ?_ | refine Run.condT rfl (by assumption) ?_ | refine Run.condF rfl (by assumption) ?_
      repeat (first | refine Run.seq ?_ | refine Run.skip ?_ | refine Run.block ?_)
      refine Run.region ?_
      refine O.field hE L51 rfl rfl rfl rfl ?_
      first | refine O.loadS hE T3 rfl rfl rfl (by rfl) rfl ?_ | refine O.loadE hE T3 rfl rfl (by rfl) rfl ?_ | refine O.load hE T3 rfl rfl rfl rfl ?_
      refine O.callE c20 rfl (by first | rfl | simp [closed, men3, mens2_app, mens2_ints, mens2, men2, men1, mens1_app, mens1_ints, mens1]) (by first | rfl | simp [d2, ds1_ints, ds1_app, ds1, d1, ds0_app, ds0_ints, ds0, d0]) rfl ?_
      refine O.field hE L25 rfl rfl rfl rfl ?_
      refine O.store hE T3 rfl rfl rfl rfl rfl rfl ?_
      refine O.nil ?_
      try refine Run.keep [0,1,2,5,6,7,8,9,13,14,15,16,31,39,45,58] rfl rfl ?_
      repeat (first | refine Run.seq ?_ | refine Run.skip ?_ | refine Run.block ?_)
      refine Run.region ?_
      refine O.load hE T25 rfl rfl rfl rfl ?_
      refine O.build hE T28 L28 rfl rfl rfl ?_
      refine O.store hE T28 rfl rfl rfl rfl rfl rfl ?_
      refine O.nil ?_
      try refine Run.keep [0,1,2,5,6,7,8,9,13,14,15,16,31,39,45,58] rfl rfl ?_
      refine Run.ret ?_
      exact ⟨_, ⟨.lit ⟨2, z20, 0, noS⟩, ⟨.lit (.int z20 ⟨by omega, by omega⟩) (by dsimp only; omega) (.inl rfl), rfl⟩, rfl⟩, Ends.of hE (.inr rfl) rfl rfl (SLe.by rfl (TmLe.cons (AVle.aggs (by repeat (first | exact AVles.nil | refine AVles.cons (AVle.of_eq rfl) ?_ | refine AVles.cons (AVle.nil _) ?_))) TmLe.nil) (BxsLe.cons rfl (.refl _) BxsLe.nil) rfl rfl)⟩
  ·
    have hnn := good_nn hv (by rw [hvk]; exact hk2)
    obtain ⟨vk, vn, vb, vs⟩ := v
    dsimp only [vlA] at cv hvk hnn
    repeat (first | refine Run.seq ?_ | refine Run.skip ?_ | refine Run.block ?_)
    refine Run.region ?_
    refine O.move rfl rfl ?_
    refine O.load hE T51 rfl rfl rfl rfl ?_
    refine O.callE cv rfl (by first | rfl | simp [closed, men3, mens2_app, mens2_ints, mens2, men2, men1, mens1_app, mens1_ints, mens1]) (by first | rfl | simp [d2, ds1_ints, ds1_app, ds1, d1, ds0_app, ds0_ints, ds0, d0]) rfl ?_
    refine O.alloc hE 9 T25 rfl rfl rfl ?_
    refine O.store hE T25 rfl rfl rfl rfl rfl rfl ?_
    refine O.nil ?_
    try refine Run.keep [0,1,2,5,6,7,8,9,13,14,15,16,31,39,45,58] rfl rfl ?_
    repeat (first | refine Run.seq ?_ | refine Run.skip ?_ | refine Run.block ?_)
    refine Run.region ?_
    refine O.field hE L51 rfl rfl rfl rfl ?_
    first | refine O.loadS hE T3 rfl rfl rfl (by rfl) rfl ?_ | refine O.loadE hE T3 rfl rfl (by rfl) rfl ?_ | refine O.load hE T3 rfl rfl rfl rfl ?_
    refine O.callE c9 rfl (by first | rfl | simp [closed, men3, mens2_app, mens2_ints, mens2, men2, men1, mens1_app, mens1_ints, mens1]) (by first | rfl | simp [d2, ds1_ints, ds1_app, ds1, d1, ds0_app, ds0_ints, ds0, d0]) rfl ?_
    first | refine O.cmp rfl rfl rfl (by first | exact dT (by omega) | exact dF (by omega)) rfl ?_ | refine O.cmp rfl rfl rfl rfl rfl ?_
    refine O.assign rfl rfl ?_
    refine O.nil ?_
    try refine Run.keep [0,1,2,5,6,7,8,9,13,14,15,16,31,39,45,58] rfl rfl ?_
    repeat (first | refine Run.seq ?_ | refine Run.skip ?_)
    first | refine Run.condT rfl rfl ?_ | refine Run.condF rfl rfl ?_ | refine Run.condT rfl (by assumption) ?_ | refine Run.condF rfl (by assumption) ?_
    repeat (first | refine Run.seq ?_ | refine Run.skip ?_ | refine Run.block ?_)
    refine Run.region ?_
    refine O.move rfl rfl ?_
    first | refine O.cmp rfl rfl rfl (by first | exact dT (by omega) | exact dF (by omega)) rfl ?_ | refine O.cmp rfl rfl rfl rfl rfl ?_
    refine O.move rfl rfl ?_
    first | (refine O.yes rfl rfl (by trivial) ?_; refine O.field hE L51 rfl rfl rfl rfl ?_) | refine O.no rfl rfl rfl rfl ?_
    first | (refine O.yes rfl rfl (by trivial) ?_; first | refine O.loadS hE T3 rfl rfl rfl (by rfl) rfl ?_ | refine O.loadE hE T3 rfl rfl (by rfl) rfl ?_ | refine O.load hE T3 rfl rfl rfl rfl ?_) | refine O.no rfl rfl rfl rfl ?_
    first | (refine O.yes rfl rfl (by trivial) ?_; refine O.no rfl rfl rfl rfl ?_) | refine O.no rfl rfl rfl rfl ?_
    first | (refine O.yes rfl rfl (by trivial) ?_; first | refine O.cmp rfl rfl rfl (by first | exact dT (by omega) | exact dF (by omega)) rfl ?_ | refine O.cmp rfl rfl rfl rfl rfl ?_) | refine O.no rfl rfl rfl rfl ?_
    refine O.pick rfl rfl rfl rfl rfl ?_
    refine O.assign rfl rfl ?_
    refine O.nil ?_
    try refine Run.keep [0,1,2,5,6,7,8,9,13,14,15,16,31,39,45,58] rfl rfl ?_
    repeat (first | refine Run.seq ?_ | refine Run.skip ?_)
    first | refine Run.condT rfl rfl ?_ | refine Run.condF rfl rfl ?_ | refine Run.condT rfl (by assumption) ?_ | refine Run.condF rfl (by assumption) ?_
    repeat (first | refine Run.seq ?_ | refine Run.skip ?_ | refine Run.block ?_)
    refine Run.region ?_
    refine O.move rfl rfl ?_
    first | refine O.cmp rfl rfl rfl (by first | exact dT (by omega) | exact dF (by omega)) rfl ?_ | refine O.cmp rfl rfl rfl rfl rfl ?_
    refine O.assign rfl rfl ?_
    refine O.nil ?_
    try refine Run.keep [0,1,2,5,6,7,8,9,13,14,15,16,31,39,45,58] rfl rfl ?_
    repeat (first | refine Run.seq ?_ | refine Run.skip ?_)
    first | refine Run.condT rfl rfl ?_ | refine Run.condF rfl rfl ?_ | refine Run.condT rfl (by assumption) ?_ | refine Run.condF rfl (by assumption) ?_
    repeat (first | refine Run.seq ?_ | refine Run.skip ?_ | refine Run.block ?_)
    refine Run.region ?_
    refine O.load hE T25 rfl rfl rfl rfl ?_
    refine O.build hE T28 L28 rfl rfl rfl ?_
    refine O.store hE T28 rfl rfl rfl rfl rfl rfl ?_
    refine O.nil ?_
    try refine Run.keep [0,1,2,5,6,7,8,9,13,14,15,16,31,39,45,58] rfl rfl ?_
    refine Run.ret ?_
    exact ⟨_, ⟨.lit ⟨vk, vn, vb, vs⟩, ⟨.lit hv hnn (.inl hvk), rfl⟩, rfl⟩, Ends.of hE (.inr rfl) rfl rfl (SLe.by rfl (TmLe.cons (AVle.aggs (by repeat (first | exact AVles.nil | refine AVles.cons (AVle.of_eq rfl) ?_ | refine AVles.cons (AVle.nil _) ?_))) TmLe.nil) (BxsLe.cons rfl (.refl _) BxsLe.nil) rfl rfl)⟩
theorem abc_at {j : Nat} (hj : j ≤ 2) : (⟨#[97, 98, 99]⟩ : ByteArray).extract (j : Int).toNat ((j : Int) + 1).toNat = nmOf (97 + j) := by
  have : j = 0 ∨ j = 1 ∨ j = 2 := by omega
  rcases this with rfl | rfl | rfl <;> rfl
theorem fnColsK {rs : List Rw} (hl : (rs.length : Int) ≤ 9223372036854775807) : FnC (En Tryd.prog g) 39 [.pv (.lst 4 (rs.map rawE))] (.pv (.lst 3 ((colsP rs).map kolE))) [] := by
  have hE := EnOk g
  have c1 := fnSome (g := g) (rs := rs) (m := 3) (by omega) hl
  rw [show (3 : Int).toNat = 3 from rfl] at c1
  have hR3 : (rs.take 3).length ≤ 3 := by rw [List.length_take]; omega
  unfold colsP
  generalize rs.take 3 = R at *
  have hlen : (R.map rawE).length = R.length := by simp
  suffices h : FnC (En Tryd.prog g) 39 [.pv (.lst 4 (rs.map rawE))] (.gl 53 (kolK :: colsFrom 0 R).length) [(53, .lst 37 3 ((kolK :: colsFrom 0 R).map kolE))] from h.to (SLe.res0 (AVle.lst _ _ _ (lstOf_glV rfl (by simp))) rfl)
  refine FnC.of Tryd.func39 rfl rfl rfl rfl ?_
  repeat (first | refine Run.seq ?_ | refine Run.skip ?_ | refine Run.block ?_)
  refine Run.region ?_
  refine O.assign rfl rfl ?_
  refine O.nil ?_
  try refine Run.keep [0,2,3,4,5,9,10,11,12] rfl rfl ?_
  repeat (first | refine Run.seq ?_ | refine Run.skip ?_ | refine Run.block ?_)
  refine Run.region ?_
  refine O.build hE T37 L37 rfl rfl rfl ?_
  refine O.lit hE 53 T29 rfl T37 rfl rfl rfl rfl rfl rfl rfl rfl ?_
  refine O.assign rfl rfl ?_
  refine O.nil ?_
  try refine Run.keep [0,2,3,4,5,9,10,11,12] rfl rfl ?_
  repeat (first | refine Run.seq ?_ | refine Run.skip ?_ | refine Run.block ?_)
  refine Run.region ?_
  refine O.move rfl rfl ?_
  refine O.callE c1 rfl (by first | rfl | simp [closed, men3, mens2_app, mens2_ints, mens2, men2, men1, mens1_app, mens1_ints, mens1]) (by first | rfl | simp [d2, ds1_ints, ds1_app, ds1, d1, ds0_app, ds0_ints, ds0, d0]) rfl ?_
  first | refine O.lenN hE T22 rfl rfl rfl (by first | exact newest_pv | exact newest_gl rfl rfl | trivial) lenC rfl ?_ | refine O.lenLst hE T22 rfl rfl rfl (by first | exact newest_pv | exact newest_gl rfl rfl | trivial) rfl ?_
  refine O.move rfl rfl ?_
  refine O.nil ?_
  try refine Run.keep [0,2,3,4,5,9,10,11,12] rfl rfl ?_
  repeat (first | refine Run.seq ?_ | refine Run.skip ?_)
  refine Run.block ?_
  refine Run.loopInv (ι := Nat) (fun j => j ≤ R.length)
    (fun j => ⟨34, [(3, .gl 53 (kolK :: colsFrom 0 (R.take j)).length), (9, .pv (.lst 4 (R.map rawE))), (10, .pv (.int .i64 R.length)), (11, .pv (.int .i64 j))], [(53, .lst 37 3 ((kolK :: colsFrom 0 (R.take j)).map kolE))]⟩) (fun j => R.length - j) 0 (by omega) ?_ ?_
  ·
    exact SLe.drop (by repeat (first | exact TmIn.nil | refine TmIn.cons rfl ?_)) (by repeat (first | exact BxIn.nil | refine BxIn.cons rfl ?_)) rfl rfl
  rintro j hj ih
  by_cases hlt : j < R.length
  ·
    obtain ⟨r, hr⟩ : ∃ r, R[j]? = some r := ⟨_, List.getElem?_eq_getElem hlt⟩
    have hat : (R.map rawE)[(j : Int).toNat]? = some (rawE r) := by
      rw [Int.toNat_natCast, List.getElem?_map, hr]; rfl
    have hys := abc_at (j := j) (by omega)
    have hext : kolK :: colsFrom 0 (R.take (j + 1)) = (kolK :: colsFrom 0 (R.take j)) ++ [kolOf j r] := by
      rw [List.take_add_one, hr]
      simp only [Option.toList_some, List.cons_append, colsFrom_append, Nat.zero_add, List.length_take]
      rw [show min j R.length = j by omega]
      rfl
    have hQ : (kolK :: colsFrom 0 (R.take j)).length = j + 1 := by rw [List.length_cons, colsFrom_len, List.length_take]; omega
    have c2 := fnPick (g := g) (a := r.kd) (m := 4) (by omega) (by omega)
    have c3 := fnPick (g := g) (a := r.a) (m := 2) (by omega) (by omega)
    have h40 : 0 ≤ r.kd % 4 ∧ r.kd % 4 < 4 := by omega
    have hko : [kolE (kolOf j r)] = [kolOf j r].map kolE := rfl
    have hko2 : kolE (kolOf j r) = .agg [.str (nmOf (97 + j)), .int .i64 (1 + r.kd % 4), .bool (decide (r.a % 2 = 0))] := rfl
    generalize kolK :: colsFrom 0 (R.take j) = Q at *
    generalize kolOf j r = ko at *
    generalize r.kd % 4 = z4 at *
    generalize r.a % 2 = z2 at *
    obtain ⟨rk, ra, rb, rt⟩ := r
    dsimp only [rawE] at hat c2 c3
    obtain ⟨kn, kk, kb⟩ := ko
    dsimp only [kolE] at hko2
    obtain ⟨rfl, rfl, rfl⟩ : kn = nmOf (97 + j) ∧ kk = 1 + z4 ∧ kb = decide (z2 = 0) := by
      simp only [PV.agg.injEq, List.cons.injEq, PV.str.injEq, PV.int.injEq, PV.bool.injEq, and_true, true_and] at hko2
      exact hko2
    repeat (first | refine Run.seq ?_ | refine Run.skip ?_ | refine Run.block ?_)
    refine Run.region ?_
    first | refine O.cmp rfl rfl rfl (by first | exact dT (by omega) | exact dF (by omega)) rfl ?_ | refine O.cmp rfl rfl rfl rfl rfl ?_
    refine O.nil ?_
    try refine Run.keep [0,2,3,4,5,9,10,11,12] rfl rfl ?_
    repeat (first | refine Run.seq ?_ | refine Run.skip ?_)
    first | refine Run.condT rfl rfl ?_ | refine Run.condF rfl rfl ?_ | refine Run.condT rfl (by assumption) ?_ | refine Run.condF rfl (by assumption) ?_
    repeat (first | refine Run.seq ?_ | refine Run.skip ?_ | refine Run.block ?_)
    refine Run.region ?_
    refine O.move rfl rfl ?_
    refine O.index hE T22 rfl T51 rfl rfl (by first | exact newest_pv | exact newest_gl rfl rfl | trivial) rfl (by omega) (by first | assumption | rfl) rfl rfl rfl ?_
    refine O.load hE T51 rfl rfl rfl rfl ?_
    refine O.alloc hE 5 T51 rfl rfl rfl ?_
    refine O.assign rfl rfl ?_
    refine O.store hE T51 rfl rfl rfl rfl rfl rfl ?_
    refine O.nil ?_
    try refine Run.keep [0,2,3,4,5,9,10,11,12] rfl rfl ?_
    repeat (first | refine Run.seq ?_ | refine Run.skip ?_ | refine Run.block ?_)
    refine Run.draw mixed rfl ?_
    refine D.move rfl rfl ?_
    refine D.move rfl rfl ?_
    refine D.move rfl rfl ?_
    first | refine D.ar rfl rfl rfl (by exact wrap_i64 (by omega) (by omega)) rfl ?_ | refine D.ar rfl rfl rfl rfl rfl ?_
    refine D.sliceS hE T9 rfl rfl rfl rfl (by omega) (by omega) (show (j : Int) + 1 ≤ 3 by omega) hys rfl ?_
    refine D.field hE L51 rfl rfl rfl rfl ?_
    first | refine D.loadS hE T3 rfl rfl rfl (by rfl) rfl ?_ | refine D.loadE hE T3 rfl rfl (by rfl) rfl ?_ | refine D.load hE T3 rfl rfl rfl rfl ?_
    refine D.callE c2 rfl (by first | rfl | simp [closed, men3, mens2_app, mens2_ints, mens2, men2, men1, mens1_app, mens1_ints, mens1]) (by first | rfl | simp [d2, ds1_ints, ds1_app, ds1, d1, ds0_app, ds0_ints, ds0, d0]) rfl ?_
    first | refine D.ar rfl rfl rfl (by exact wrap_i64 (by omega) (by omega)) rfl ?_ | refine D.ar rfl rfl rfl rfl rfl ?_
    refine D.field hE L51 rfl rfl rfl rfl ?_
    first | refine D.loadS hE T3 rfl rfl rfl (by rfl) rfl ?_ | refine D.loadE hE T3 rfl rfl (by rfl) rfl ?_ | refine D.load hE T3 rfl rfl rfl rfl ?_
    refine D.callE c3 rfl (by first | rfl | simp [closed, men3, mens2_app, mens2_ints, mens2, men2, men1, mens1_app, mens1_ints, mens1]) (by first | rfl | simp [d2, ds1_ints, ds1_app, ds1, d1, ds0_app, ds0_ints, ds0, d0]) rfl ?_
    refine D.cmp rfl rfl rfl rfl rfl ?_
    refine D.build hE T37 L37 rfl rfl rfl ?_
    refine D.litV hE T29 rfl T37 rfl rfl rfl rfl rfl rfl rfl ?_
    refine D.appM kolE (q := Q) (r := [⟨nmOf (97 + j), 1 + z4, decide (z2 = 0)⟩]) hE T29 rfl T37 rfl rfl rfl rfl rfl newest_pv rfl rfl rfl rfl (by simp; omega) (by simp [maxLen]; omega) rfl ?_
    refine D.assign rfl rfl ?_
    refine Dr.nil ?_
    refine ⟨rfl, ?_⟩
    try refine Run.keep [0,2,3,4,5,9,10,11,12] rfl rfl ?_
    repeat (first | refine Run.seq ?_ | refine Run.skip ?_ | refine Run.block ?_)
    refine Run.region ?_
    first | refine O.ar rfl rfl rfl (by exact wrap_i64 (by omega) (by omega)) rfl ?_ | refine O.ar rfl rfl rfl rfl rfl ?_
    refine O.move rfl rfl ?_
    refine O.nil ?_
    try refine Run.keep [0,2,3,4,5,9,10,11,12] rfl rfl ?_
    refine ih (j + 1) _ ?_ (by omega) (by omega)
    rw [hext]
    exact SLe.drop (by repeat (first | exact TmIn.nil | refine TmIn.cons rfl ?_)) (by repeat (first | exact BxIn.nil | refine BxIn.cons rfl ?_)) rfl rfl
  have hj' : j = R.length := by omega
  rw [hj', List.take_length]
  repeat (first | refine Run.seq ?_ | refine Run.skip ?_ | refine Run.block ?_)
  refine Run.region ?_
  first | refine O.cmp rfl rfl rfl (by first | exact dT (by omega) | exact dF (by omega)) rfl ?_ | refine O.cmp rfl rfl rfl rfl rfl ?_
  refine O.nil ?_
  try refine Run.keep [0,2,3,4,5,9,10,11,12] rfl rfl ?_
  repeat (first | refine Run.seq ?_ | refine Run.skip ?_)
  first | refine Run.condT rfl rfl ?_ | refine Run.condF rfl rfl ?_ | refine Run.condT rfl (by assumption) ?_ | refine Run.condF rfl (by assumption) ?_
  refine Run.exit ?_
  repeat (first | refine thenR_exit ?_ | refine roundR_exit ?_ | refine blockR_exit ?_ | refine blockR_pass rfl ?_)
  repeat (first | refine Run.seq ?_ | refine Run.skip ?_ | refine Run.block ?_)
  refine Run.region ?_
  refine O.move rfl rfl ?_
  refine O.assign rfl rfl ?_
  refine O.nil ?_
  try refine Run.keep [0,2,3,4,5,9,10,11,12] rfl rfl ?_
  refine Run.ret ?_
  exact Ends.of hE (.inr rfl) rfl rfl (SLe.drop (by repeat (first | exact TmIn.nil | refine TmIn.cons rfl ?_)) (by repeat (first | exact BxIn.nil | refine BxIn.cons rfl ?_)) rfl rfl)
theorem fnHeapOf {rs : List Rw} (hl : (rs.length : Int) ≤ 9223372036854775807) : FnC (En Tryd.prog g) 25 [.pv (.lst 4 (rs.map rawE))] (.ptr 200 0) [(200, hpV (rs.take 40) 0 (colsP (rs.take ((rs.length : Int) % 4).toNat)))] := by
  have hE := EnOk g
  have hlm : ((rs.map rawE).length : Int) = rs.length := by simp
  have c1 := fnSome (g := g) (rs := rs) (m := 40) (by omega) hl
  rw [show (40 : Int).toNat = 40 from rfl] at c1
  have c2 := fnPick (g := g) (a := (rs.length : Int)) (m := 4) (by omega) (by omega)
  have c3 := fnSome (g := g) (rs := rs) (m := (rs.length : Int) % 4) (by omega) hl
  have c4 := fnColsK (g := g) (rs := rs.take ((rs.length : Int) % 4).toNat) (by rw [List.length_take]; omega)
  generalize rs.take 40 = A at *
  generalize rs.take ((rs.length : Int) % 4).toNat = B at *
  generalize (rs.length : Int) % 4 = z at *
  generalize colsP B = C at *
  refine FnC.of Tryd.func25 rfl rfl rfl rfl ?_
  repeat (first | refine Run.seq ?_ | refine Run.skip ?_ | refine Run.block ?_)
  refine Run.region ?_
  refine O.assignN rfl ?_
  refine O.nil ?_
  try refine Run.keep [0,2] rfl rfl ?_
  repeat (first | refine Run.seq ?_ | refine Run.skip ?_ | refine Run.block ?_)
  refine Run.region ?_
  refine O.move rfl rfl ?_
  refine O.callE c1 rfl (by first | rfl | simp [closed, men3, mens2_app, mens2_ints, mens2, men2, men1, mens1_app, mens1_ints, mens1]) (by first | rfl | simp [d2, ds1_ints, ds1_app, ds1, d1, ds0_app, ds0_ints, ds0, d0]) rfl ?_
  refine O.move rfl rfl ?_
  refine O.move rfl rfl ?_
  refine O.lenN hE T22 rfl rfl rfl newest_pv hlm rfl ?_
  refine O.callE c2 rfl (by first | rfl | simp [closed, men3, mens2_app, mens2_ints, mens2, men2, men1, mens1_app, mens1_ints, mens1]) (by first | rfl | simp [d2, ds1_ints, ds1_app, ds1, d1, ds0_app, ds0_ints, ds0, d0]) rfl ?_
  refine O.callE c3 rfl (by first | rfl | simp [closed, men3, mens2_app, mens2_ints, mens2, men2, men1, mens1_app, mens1_ints, mens1]) (by first | rfl | simp [d2, ds1_ints, ds1_app, ds1, d1, ds0_app, ds0_ints, ds0, d0]) rfl ?_
  refine O.callE c4 rfl (by first | rfl | simp [closed, men3, mens2_app, mens2_ints, mens2, men2, men1, mens1_app, mens1_ints, mens1]) (by first | rfl | simp [d2, ds1_ints, ds1_app, ds1, d1, ds0_app, ds0_ints, ds0, d0]) rfl ?_
  refine O.build hE T60 L60 rfl rfl rfl ?_
  refine O.box 200 rfl rfl rfl rfl ?_
  refine O.assign rfl rfl ?_
  refine O.nil ?_
  try refine Run.keep [0,2] rfl rfl ?_
  refine Run.ret ?_
  exact Ends.of hE (.inr rfl) rfl rfl (SLe.drop (by repeat (first | exact TmIn.nil | refine TmIn.cons rfl ?_)) (by repeat (first | exact BxIn.nil | refine BxIn.cons rfl ?_)) rfl rfl)
end Go.Proofs.YtdigejpgjnhclaaDoor.Vm
