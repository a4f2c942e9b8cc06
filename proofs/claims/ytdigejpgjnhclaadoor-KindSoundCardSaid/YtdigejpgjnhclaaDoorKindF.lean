/- The kind of an expression: kinds.of, Of. Conditions: what utf8.ValidString answers. -/
import Derived.Test.YtdigejpgjnhclaaDoorKindC
import Derived.Test.YtdigejpgjnhclaaDoorExecT
section
namespace Go.Proofs.YtdigejpgjnhclaaDoor.Vm
open Go Go.RowKit Go.Lib
set_option linter.unusedVariables false
set_option linter.unusedSimpArgs false
attribute [local irreducible] Ops Dr Run
section
variable {P : Program} {g : Gb} {s : St}
/-- The first elements of an array variable, as a slice of it. -/
theorem OpOk.sliceWB {dst : Option Tmp} {t e : TypeId} {y hi : Operand} {ty : TypeId} {pos : String} {after : Array Edge} {gd : Option (Nat × Bool)} {i ie : TI} {len b o m : Nat} {kh : IntKind} {a : Int} (ht : tiOf P t = some i) (hk : i.desc = .arr len e) (he : tiOf P e = some ie) (hpos : 0 < len) (hmx : len ≤ maxLen) (hy : s.ev g y = .ptr b o)
    (hhi : s.ev g hi = .pv (.int kh a)) (ha : a = m) (hm : m ≤ len) (hd : ∀ t, dst = some t → t < s.n) : OpOk P g ⟨dst, .slice t y none (some hi) none, ty, pos, after, gd⟩ s (s.putO dst (.vrow b o m)) := by
  refine OpOk.val (o := ⟨dst, .slice t y none (some hi) none, ty, pos, after, gd⟩) hd (fun cx c w G hP hg hs => ?_)
  have h1 := hs.ev hg y
  rw [hy] at h1
  have g3 := hs.ev hg hi
  rw [hhi] at g3
  have g3 := g3.int
  generalize hv : c.eval y = v at h1
  obtain ⟨a1, a2, a3⟩ := arr_facts ht hk
  cases h1 with
  | ptr _ _ k hk' =>
    refine ⟨.slice (some ⟨k, o, none⟩) m len, ?_, .vrow b o m len k hk' ⟨hm, hmx⟩⟩
    have := run_sliceAt_array_h (P := P) w t ⟨k, o, none⟩ a3 kh a (by omega) (by rw [a1]; omega)
    rw [a1, a2, tiOf_size he w] at this
    simp only [execOp, hv, Option.map_some, Option.map_none, g3, this, Sem.run_bind, Result.andThen_ok, slicedAt, Nat.zero_mul]
    rw [if_neg (by omega), add_plain0]
    simp [Sem.run, ha]
end
section
variable {E : Env} {n : Nat} {tm : List (Nat × AV)} {bx : List (Nat × Box)} {ops : Array Oper} {l : List Oper} {d : Tmp} {ty : TypeId} {pos : String} {after : Array Edge}
theorem O.sliceWB {Θ : St → Prop} {t e : TypeId} {y hi : Operand} {i ie : TI} {len b o m : Nat} {kh : IntKind} {a : Int} (hE : E.Ok) (ht : E.T t = some i) (hk : i.desc = .arr len e) (he : E.T e = some ie) (hpos : Nat.blt 0 len = true) (hy : evO E tm y = some (.ptr b o)) (hhi : evO E tm hi = some (.pv (.int kh a))) (ha : a = m) (hm : Nat.ble m len = true) (hd : Nat.blt d n = true)
    (h : Ops E.P E.g ops l ⟨n, (d, .vrow b o m) :: tm, bx⟩ Θ) (hmx : Nat.ble len 1000000 = true := by rfl) : Ops E.P E.g ops (⟨some d, .slice t y none (some hi) none, ty, pos, after, none⟩ :: l) ⟨n, tm, bx⟩ Θ :=
  Ops.op rfl (OpOk.sliceWB (hE.t _ _ ht) hk (hE.t _ _ he) (Vm.blt hpos) (by have := Nat.le_of_ble_eq_true hmx; unfold maxLen; omega) (evO_ok hy) (evO_ok hhi) ha (Nat.le_of_ble_eq_true hm) (dlt hd)) h
end
variable {g : Nat → Option (List PV)}
abbrev srtA (s : Srt) : AV := .agg [.pv (.int .i64 s.kd), .pv (.bool s.nl)]
theorem fnFits {s : Srt} {k : Int} (h : s.kd = k ∨ s.kd = 0) : FnC (En Tryd.prog g) 58 [srtA s, .pv (.int .i64 k)] (.pv (.bool true)) [] := by
  have hE := EnOk g
  obtain ⟨sk, sn⟩ := s
  dsimp only at h ⊢
  by_cases hk : sk = k
  ·
    exact FnC.go hE mixed Tryd.func58 [(8, .b true)]
  ·
    have h0 : sk = 0 := h.resolve_left hk
    exact FnC.go hE mixed Tryd.func58 [(8, .b false), (12, .b true)]
theorem fnWith (s t : Srt) : FnC (En Tryd.prog g) 59 [srtA s, srtA t] (srtA ⟨if s.kd = 0 then t.kd else s.kd, s.nl || t.nl⟩) [] := by
  have hE := EnOk g
  obtain ⟨sk, sn⟩ := s
  obtain ⟨tk, tn⟩ := t
  dsimp only
  by_cases hk : sk = 0
  ·
    rw [if_pos hk]
    cases sn
    ·
      exact FnC.go hE mixed Tryd.func59 [(7, .b true)]
    ·
      exact FnC.go hE mixed Tryd.func59 [(7, .b true)]
  ·
    rw [if_neg hk]
    cases sn
    ·
      exact FnC.go hE mixed Tryd.func59 [(7, .b false)]
    ·
      exact FnC.go hE mixed Tryd.func59 [(7, .b false)]
def acc1 (p : Bool) : Nat → Bool
  | 0 => false
  | _ + 1 => p
theorem fnAsks1 {p : Srt} {k gv : Int} (hp : p.kd = k ∨ p.kd = 0) : FnL (EnL Tryd.prog g [5, 4]) 57 [.pv (.int .i64 k), .pv (.int .i64 gv), .ptr 5 0, .ptr 4 0] [(5, .var [.pv (.int .i64 p.kd), .pv (.bool p.nl), .pv (.int .i64 0), .pv (.bool false)]), (4, .var [.pv (.int .i64 1)])] (.tup [srtA ⟨gv, p.nl⟩, .pv (.int .i64 0)]) [(5, .var [.pv (.int .i64 p.kd), .pv (.bool p.nl), .pv (.int .i64 0), .pv (.bool false)]), (4, .var [.pv (.int .i64 1)])] := by
  have hE := EnLOk g [5, 4]
  have cp := (fnFits (g := g) hp).lent [5, 4]
  obtain ⟨pk, pn⟩ := p
  dsimp only at cp ⊢
  refine FnL.of Tryd.func57 rfl rfl rfl rfl ?_
  repeat (first | refine Run.seq ?_ | refine Run.skip ?_ | refine Run.block ?_)
  refine Run.region ?_
  refine O.alloc hE 6 T73 rfl rfl rfl ?_
  refine O.assign rfl rfl ?_
  refine O.nil ?_
  try refine Run.keep [0,1,2,3,6,7,8,10,14,15,16,17,23] rfl rfl ?_
  repeat (first | refine Run.seq ?_ | refine Run.skip ?_ | refine Run.block ?_)
  refine Run.region ?_
  refine O.move rfl rfl ?_
  refine O.build hE T73 L73 rfl rfl rfl ?_
  refine O.alloc hE 8 T73 rfl rfl rfl ?_
  refine O.store hE T73 rfl rfl rfl rfl rfl rfl ?_
  refine O.nil ?_
  try refine Run.keep [0,1,2,3,6,7,8,10,14,15,16,17,23] rfl rfl ?_
  repeat (first | refine Run.seq ?_ | refine Run.skip ?_ | refine Run.block ?_)
  refine Run.region ?_
  first | refine O.loadS hE T3 rfl rfl rfl (by rfl) rfl ?_ | refine O.loadE hE T3 rfl rfl (by rfl) rfl ?_ | refine O.load hE T3 rfl rfl rfl rfl ?_
  refine O.sliceWB (m := 1) hE T91 rfl T73 rfl rfl rfl rfl rfl rfl ?_
  refine O.lenRow (j := 1) hE T107 rfl rfl rfl rfl ?_
  refine O.move rfl rfl ?_
  refine O.nil ?_
  try refine Run.keep [0,1,2,3,6,7,8,10,14,15,16,17,23] rfl rfl ?_
  repeat (first | refine Run.seq ?_ | refine Run.skip ?_)
  refine Run.block ?_
  refine Run.loopInv (ι := Nat) (fun j => j ≤ 1)
    (fun j => ⟨34, [(0, .pv (.int .i64 k)), (6, .ptr 6 0), (7, .pv (.int .i64 0)), (8, .ptr 8 0), (14, .vrow 5 0 1), (15, .pv (.int .i64 1)), (16, .pv (.int .i64 j))], [(8, .var [.pv (.int .i64 gv), .pv (.bool (acc1 pn j))]), (6, .var [.pv (.int .i64 0), .pv (.bool false)]), (5, .var [.pv (.int .i64 pk), .pv (.bool pn), .pv (.int .i64 0), .pv (.bool false)]), (4, .var [.pv (.int .i64 1)])]⟩) (fun j => 1 - j) 0 (by omega) ?_ ?_
  ·
    exact SLe.drop (by repeat (first | exact TmIn.nil | refine TmIn.cons rfl ?_)) (by repeat (first | exact BxIn.nil | refine BxIn.cons rfl ?_)) rfl rfl
  rintro j hj ih
  have hjc : j = 0 ∨ j = 1 := by omega
  rcases hjc with rfl | rfl
  ·
    repeat (first | refine Run.seq ?_ | refine Run.skip ?_ | refine Run.block ?_)
    refine Run.region ?_
    first | refine O.cmp rfl rfl rfl (by first | exact dT (by omega) | exact dF (by omega)) rfl ?_ | refine O.cmp rfl rfl rfl rfl rfl ?_
    refine O.nil ?_
    try refine Run.keep [0,1,2,3,6,7,8,10,14,15,16,17,23] rfl rfl ?_
    repeat (first | refine Run.seq ?_ | refine Run.skip ?_)
    first | refine Run.condT rfl rfl ?_ | refine Run.condF rfl rfl ?_ | refine Run.condT rfl (by assumption) ?_ | refine Run.condF rfl (by assumption) ?_
    repeat (first | refine Run.seq ?_ | refine Run.skip ?_ | refine Run.block ?_)
    refine Run.region ?_
    refine O.indexRow (q := 0) hE T107 rfl T73 rfl rfl (by omega) (by omega) rfl rfl ?_
    refine O.load hE T73 rfl rfl rfl rfl ?_
    refine O.alloc hE 10 T73 rfl rfl rfl ?_
    refine O.store hE T73 rfl rfl rfl rfl rfl rfl ?_
    refine O.nil ?_
    try refine Run.keep [0,1,2,3,6,7,8,10,14,15,16,17,23] rfl rfl ?_
    repeat (first | refine Run.seq ?_ | refine Run.skip ?_ | refine Run.block ?_)
    refine Run.region ?_
    refine O.load hE T73 rfl rfl rfl rfl ?_
    refine O.move rfl rfl ?_
    refine O.callE cp rfl (by first | rfl | simp [closed, men3, mens2_app, mens2_ints, mens2, men2, men1, mens1_app, mens1_ints, mens1]) (by first | rfl | simp [d2, ds1_ints, ds1_app, ds1, d1, ds0_app, ds0_ints, ds0, d0]) rfl ?_
    refine O.un rfl rfl rfl rfl rfl ?_
    refine O.nil ?_
    try refine Run.keep [0,1,2,3,6,7,8,10,14,15,16,17,23] rfl rfl ?_
    repeat (first | refine Run.seq ?_ | refine Run.skip ?_)
    first | refine Run.condT rfl rfl ?_ | refine Run.condF rfl rfl ?_ | refine Run.condT rfl (by assumption) ?_ | refine Run.condF rfl (by assumption) ?_
    repeat (first | refine Run.seq ?_ | refine Run.skip ?_ | refine Run.block ?_)
    refine Run.region ?_
    refine O.field hE L73 rfl rfl rfl rfl ?_
    first | refine O.loadS hE T4 rfl rfl rfl (by rfl) rfl ?_ | refine O.loadE hE T4 rfl rfl (by rfl) rfl ?_ | refine O.load hE T4 rfl rfl rfl rfl ?_
    refine O.move rfl rfl ?_
    first | (refine O.yes rfl rfl (by trivial) ?_; refine O.field hE L73 rfl rfl rfl rfl ?_) | refine O.no rfl rfl rfl rfl ?_
    first | (refine O.yes rfl rfl (by trivial) ?_; first | refine O.loadS hE T4 rfl rfl rfl (by rfl) rfl ?_ | refine O.loadE hE T4 rfl rfl (by rfl) rfl ?_ | refine O.load hE T4 rfl rfl rfl rfl ?_) | refine O.no rfl rfl rfl rfl ?_
    refine O.pick rfl rfl rfl rfl rfl ?_
    refine O.field hE L73 rfl rfl rfl rfl ?_
    refine O.store hE T4 rfl rfl rfl rfl rfl rfl ?_
    refine O.nil ?_
    try refine Run.keep [0,1,2,3,6,7,8,10,14,15,16,17,23] rfl rfl ?_
    repeat (first | refine Run.seq ?_ | refine Run.skip ?_ | refine Run.block ?_)
    refine Run.region ?_
    first | refine O.ar rfl rfl rfl (by exact wrap_i64 (by omega) (by omega)) rfl ?_ | refine O.ar rfl rfl rfl rfl rfl ?_
    refine O.move rfl rfl ?_
    refine O.nil ?_
    try refine Run.keep [0,1,2,3,6,7,8,10,14,15,16,17,23] rfl rfl ?_
    exact ih 1 _ (SLe.drop (by repeat (first | exact TmIn.nil | refine TmIn.cons rfl ?_)) (by repeat (first | exact BxIn.nil | refine BxIn.cons rfl ?_)) rfl rfl) (by omega) (by omega)
  ·
    repeat (first | refine Run.seq ?_ | refine Run.skip ?_ | refine Run.block ?_)
    refine Run.region ?_
    first | refine O.cmp rfl rfl rfl (by first | exact dT (by omega) | exact dF (by omega)) rfl ?_ | refine O.cmp rfl rfl rfl rfl rfl ?_
    refine O.nil ?_
    try refine Run.keep [0,1,2,3,6,7,8,10,14,15,16,17,23] rfl rfl ?_
    repeat (first | refine Run.seq ?_ | refine Run.skip ?_)
    first | refine Run.condT rfl rfl ?_ | refine Run.condF rfl rfl ?_ | refine Run.condT rfl (by assumption) ?_ | refine Run.condF rfl (by assumption) ?_
    refine Run.exit ?_
    repeat (first | refine thenR_exit ?_ | refine roundR_exit ?_ | refine blockR_exit ?_ | refine blockR_pass rfl ?_)
    repeat (first | refine Run.seq ?_ | refine Run.skip ?_ | refine Run.block ?_)
    refine Run.region ?_
    refine O.load hE T73 rfl rfl rfl rfl ?_
    refine O.store hE T73 rfl rfl rfl rfl rfl rfl ?_
    refine O.assign rfl rfl ?_
    refine O.nil ?_
    try refine Run.keep [0,1,2,3,6,7,8,10,14,15,16,17,23] rfl rfl ?_
    refine Run.ret ?_
    exact Ends.of hE (.inr rfl) rfl rfl (SLe.drop (by repeat (first | exact TmIn.nil | refine TmIn.cons rfl ?_)) (by repeat (first | exact BxIn.nil | refine BxIn.cons rfl ?_)) rfl rfl)
def acc2 (p q : Bool) : Nat → Bool
  | 0 => false
  | 1 => p
  | _ + 2 => p || q
theorem fnAsks2 {p q : Srt} {k gv : Int} (hp : p.kd = k ∨ p.kd = 0) (hq : q.kd = k ∨ q.kd = 0) : FnL (EnL Tryd.prog g [5, 4]) 57 [.pv (.int .i64 k), .pv (.int .i64 gv), .ptr 5 0, .ptr 4 0] [(5, .var [.pv (.int .i64 p.kd), .pv (.bool p.nl), .pv (.int .i64 q.kd), .pv (.bool q.nl)]), (4, .var [.pv (.int .i64 2)])] (.tup [srtA ⟨gv, (p.nl || q.nl)⟩, .pv (.int .i64 0)]) [(5, .var [.pv (.int .i64 p.kd), .pv (.bool p.nl), .pv (.int .i64 q.kd), .pv (.bool q.nl)]), (4, .var [.pv (.int .i64 2)])] := by
  have hE := EnLOk g [5, 4]
  have cp := (fnFits (g := g) hp).lent [5, 4]
  have cq := (fnFits (g := g) hq).lent [5, 4]
  obtain ⟨pk, pn⟩ := p
  obtain ⟨qk, qn⟩ := q
  dsimp only at cp cq ⊢
  refine FnL.of Tryd.func57 rfl rfl rfl rfl ?_
  repeat (first | refine Run.seq ?_ | refine Run.skip ?_ | refine Run.block ?_)
  refine Run.region ?_
  refine O.alloc hE 6 T73 rfl rfl rfl ?_
  refine O.assign rfl rfl ?_
  refine O.nil ?_
  try refine Run.keep [0,1,2,3,6,7,8,10,14,15,16,17,23] rfl rfl ?_
  repeat (first | refine Run.seq ?_ | refine Run.skip ?_ | refine Run.block ?_)
  refine Run.region ?_
  refine O.move rfl rfl ?_
  refine O.build hE T73 L73 rfl rfl rfl ?_
  refine O.alloc hE 8 T73 rfl rfl rfl ?_
  refine O.store hE T73 rfl rfl rfl rfl rfl rfl ?_
  refine O.nil ?_
  try refine Run.keep [0,1,2,3,6,7,8,10,14,15,16,17,23] rfl rfl ?_
  repeat (first | refine Run.seq ?_ | refine Run.skip ?_ | refine Run.block ?_)
  refine Run.region ?_
  first | refine O.loadS hE T3 rfl rfl rfl (by rfl) rfl ?_ | refine O.loadE hE T3 rfl rfl (by rfl) rfl ?_ | refine O.load hE T3 rfl rfl rfl rfl ?_
  refine O.sliceWB (m := 2) hE T91 rfl T73 rfl rfl rfl rfl rfl rfl ?_
  refine O.lenRow (j := 2) hE T107 rfl rfl rfl rfl ?_
  refine O.move rfl rfl ?_
  refine O.nil ?_
  try refine Run.keep [0,1,2,3,6,7,8,10,14,15,16,17,23] rfl rfl ?_
  repeat (first | refine Run.seq ?_ | refine Run.skip ?_)
  refine Run.block ?_
  refine Run.loopInv (ι := Nat) (fun j => j ≤ 2)
    (fun j => ⟨34, [(0, .pv (.int .i64 k)), (6, .ptr 6 0), (7, .pv (.int .i64 0)), (8, .ptr 8 0), (14, .vrow 5 0 2), (15, .pv (.int .i64 2)), (16, .pv (.int .i64 j))], [(8, .var [.pv (.int .i64 gv), .pv (.bool (acc2 pn qn j))]), (6, .var [.pv (.int .i64 0), .pv (.bool false)]), (5, .var [.pv (.int .i64 pk), .pv (.bool pn), .pv (.int .i64 qk), .pv (.bool qn)]), (4, .var [.pv (.int .i64 2)])]⟩) (fun j => 2 - j) 0 (by omega) ?_ ?_
  ·
    exact SLe.drop (by repeat (first | exact TmIn.nil | refine TmIn.cons rfl ?_)) (by repeat (first | exact BxIn.nil | refine BxIn.cons rfl ?_)) rfl rfl
  rintro j hj ih
  have hjc : j = 0 ∨ j = 1 ∨ j = 2 := by omega
  rcases hjc with rfl | rfl | rfl
  ·
    repeat (first | refine Run.seq ?_ | refine Run.skip ?_ | refine Run.block ?_)
    refine Run.region ?_
    first | refine O.cmp rfl rfl rfl (by first | exact dT (by omega) | exact dF (by omega)) rfl ?_ | refine O.cmp rfl rfl rfl rfl rfl ?_
    refine O.nil ?_
    try refine Run.keep [0,1,2,3,6,7,8,10,14,15,16,17,23] rfl rfl ?_
    repeat (first | refine Run.seq ?_ | refine Run.skip ?_)
    first | refine Run.condT rfl rfl ?_ | refine Run.condF rfl rfl ?_ | refine Run.condT rfl (by assumption) ?_ | refine Run.condF rfl (by assumption) ?_
    repeat (first | refine Run.seq ?_ | refine Run.skip ?_ | refine Run.block ?_)
    refine Run.region ?_
    refine O.indexRow (q := 0) hE T107 rfl T73 rfl rfl (by omega) (by omega) rfl rfl ?_
    refine O.load hE T73 rfl rfl rfl rfl ?_
    refine O.alloc hE 10 T73 rfl rfl rfl ?_
    refine O.store hE T73 rfl rfl rfl rfl rfl rfl ?_
    refine O.nil ?_
    try refine Run.keep [0,1,2,3,6,7,8,10,14,15,16,17,23] rfl rfl ?_
    repeat (first | refine Run.seq ?_ | refine Run.skip ?_ | refine Run.block ?_)
    refine Run.region ?_
    refine O.load hE T73 rfl rfl rfl rfl ?_
    refine O.move rfl rfl ?_
    refine O.callE cp rfl (by first | rfl | simp [closed, men3, mens2_app, mens2_ints, mens2, men2, men1, mens1_app, mens1_ints, mens1]) (by first | rfl | simp [d2, ds1_ints, ds1_app, ds1, d1, ds0_app, ds0_ints, ds0, d0]) rfl ?_
    refine O.un rfl rfl rfl rfl rfl ?_
    refine O.nil ?_
    try refine Run.keep [0,1,2,3,6,7,8,10,14,15,16,17,23] rfl rfl ?_
    repeat (first | refine Run.seq ?_ | refine Run.skip ?_)
    first | refine Run.condT rfl rfl ?_ | refine Run.condF rfl rfl ?_ | refine Run.condT rfl (by assumption) ?_ | refine Run.condF rfl (by assumption) ?_
    repeat (first | refine Run.seq ?_ | refine Run.skip ?_ | refine Run.block ?_)
    refine Run.region ?_
    refine O.field hE L73 rfl rfl rfl rfl ?_
    first | refine O.loadS hE T4 rfl rfl rfl (by rfl) rfl ?_ | refine O.loadE hE T4 rfl rfl (by rfl) rfl ?_ | refine O.load hE T4 rfl rfl rfl rfl ?_
    refine O.move rfl rfl ?_
    first | (refine O.yes rfl rfl (by trivial) ?_; refine O.field hE L73 rfl rfl rfl rfl ?_) | refine O.no rfl rfl rfl rfl ?_
    first | (refine O.yes rfl rfl (by trivial) ?_; first | refine O.loadS hE T4 rfl rfl rfl (by rfl) rfl ?_ | refine O.loadE hE T4 rfl rfl (by rfl) rfl ?_ | refine O.load hE T4 rfl rfl rfl rfl ?_) | refine O.no rfl rfl rfl rfl ?_
    refine O.pick rfl rfl rfl rfl rfl ?_
    refine O.field hE L73 rfl rfl rfl rfl ?_
    refine O.store hE T4 rfl rfl rfl rfl rfl rfl ?_
    refine O.nil ?_
    try refine Run.keep [0,1,2,3,6,7,8,10,14,15,16,17,23] rfl rfl ?_
    repeat (first | refine Run.seq ?_ | refine Run.skip ?_ | refine Run.block ?_)
    refine Run.region ?_
    first | refine O.ar rfl rfl rfl (by exact wrap_i64 (by omega) (by omega)) rfl ?_ | refine O.ar rfl rfl rfl rfl rfl ?_
    refine O.move rfl rfl ?_
    refine O.nil ?_
    try refine Run.keep [0,1,2,3,6,7,8,10,14,15,16,17,23] rfl rfl ?_
    exact ih 1 _ (SLe.drop (by repeat (first | exact TmIn.nil | refine TmIn.cons rfl ?_)) (by repeat (first | exact BxIn.nil | refine BxIn.cons rfl ?_)) rfl rfl) (by omega) (by omega)
  ·
    cases pn
    ·
      repeat (first | refine Run.seq ?_ | refine Run.skip ?_ | refine Run.block ?_)
      refine Run.region ?_
      first | refine O.cmp rfl rfl rfl (by first | exact dT (by omega) | exact dF (by omega)) rfl ?_ | refine O.cmp rfl rfl rfl rfl rfl ?_
      refine O.nil ?_
      try refine Run.keep [0,1,2,3,6,7,8,10,14,15,16,17,23] rfl rfl ?_
      repeat (first | refine Run.seq ?_ | refine Run.skip ?_)
      first | refine Run.condT rfl rfl ?_ | refine Run.condF rfl rfl ?_ | refine Run.condT rfl (by assumption) ?_ | refine Run.condF rfl (by assumption) ?_
      repeat (first | refine Run.seq ?_ | refine Run.skip ?_ | refine Run.block ?_)
      refine Run.region ?_
      refine O.indexRow (q := 2) hE T107 rfl T73 rfl rfl (by omega) (by omega) rfl rfl ?_
      refine O.load hE T73 rfl rfl rfl rfl ?_
      refine O.alloc hE 10 T73 rfl rfl rfl ?_
      refine O.store hE T73 rfl rfl rfl rfl rfl rfl ?_
      refine O.nil ?_
      try refine Run.keep [0,1,2,3,6,7,8,10,14,15,16,17,23] rfl rfl ?_
      repeat (first | refine Run.seq ?_ | refine Run.skip ?_ | refine Run.block ?_)
      refine Run.region ?_
      refine O.load hE T73 rfl rfl rfl rfl ?_
      refine O.move rfl rfl ?_
      refine O.callE cq rfl (by first | rfl | simp [closed, men3, mens2_app, mens2_ints, mens2, men2, men1, mens1_app, mens1_ints, mens1]) (by first | rfl | simp [d2, ds1_ints, ds1_app, ds1, d1, ds0_app, ds0_ints, ds0, d0]) rfl ?_
      refine O.un rfl rfl rfl rfl rfl ?_
      refine O.nil ?_
      try refine Run.keep [0,1,2,3,6,7,8,10,14,15,16,17,23] rfl rfl ?_
      repeat (first | refine Run.seq ?_ | refine Run.skip ?_)
      first | refine Run.condT rfl rfl ?_ | refine Run.condF rfl rfl ?_ | refine Run.condT rfl (by assumption) ?_ | refine Run.condF rfl (by assumption) ?_
      repeat (first | refine Run.seq ?_ | refine Run.skip ?_ | refine Run.block ?_)
      refine Run.region ?_
      refine O.field hE L73 rfl rfl rfl rfl ?_
      first | refine O.loadS hE T4 rfl rfl rfl (by rfl) rfl ?_ | refine O.loadE hE T4 rfl rfl (by rfl) rfl ?_ | refine O.load hE T4 rfl rfl rfl rfl ?_
      refine O.move rfl rfl ?_
      first | (refine O.yes rfl rfl (by trivial) ?_; refine O.field hE L73 rfl rfl rfl rfl ?_) | refine O.no rfl rfl rfl rfl ?_
      first | (refine O.yes rfl rfl (by trivial) ?_; first | refine O.loadS hE T4 rfl rfl rfl (by rfl) rfl ?_ | refine O.loadE hE T4 rfl rfl (by rfl) rfl ?_ | refine O.load hE T4 rfl rfl rfl rfl ?_) | refine O.no rfl rfl rfl rfl ?_
      refine O.pick rfl rfl rfl rfl rfl ?_
      refine O.field hE L73 rfl rfl rfl rfl ?_
      refine O.store hE T4 rfl rfl rfl rfl rfl rfl ?_
      refine O.nil ?_
      try refine Run.keep [0,1,2,3,6,7,8,10,14,15,16,17,23] rfl rfl ?_
      repeat (first | refine Run.seq ?_ | refine Run.skip ?_ | refine Run.block ?_)
      refine Run.region ?_
      first | refine O.ar rfl rfl rfl (by exact wrap_i64 (by omega) (by omega)) rfl ?_ | refine O.ar rfl rfl rfl rfl rfl ?_
      refine O.move rfl rfl ?_
      refine O.nil ?_
      try refine Run.keep [0,1,2,3,6,7,8,10,14,15,16,17,23] rfl rfl ?_
      exact ih 2 _ (SLe.drop (by repeat (first | exact TmIn.nil | refine TmIn.cons rfl ?_)) (by repeat (first | exact BxIn.nil | refine BxIn.cons rfl ?_)) rfl rfl) (by omega) (by omega)
    ·
      repeat (first | refine Run.seq ?_ | refine Run.skip ?_ | refine Run.block ?_)
      refine Run.region ?_
      first | refine O.cmp rfl rfl rfl (by first | exact dT (by omega) | exact dF (by omega)) rfl ?_ | refine O.cmp rfl rfl rfl rfl rfl ?_
      refine O.nil ?_
      try refine Run.keep [0,1,2,3,6,7,8,10,14,15,16,17,23] rfl rfl ?_
      repeat (first | refine Run.seq ?_ | refine Run.skip ?_)
      first | refine Run.condT rfl rfl ?_ | refine Run.condF rfl rfl ?_ | refine Run.condT rfl (by assumption) ?_ | refine Run.condF rfl (by assumption) ?_
      repeat (first | refine Run.seq ?_ | refine Run.skip ?_ | refine Run.block ?_)
      refine Run.region ?_
      refine O.indexRow (q := 2) hE T107 rfl T73 rfl rfl (by omega) (by omega) rfl rfl ?_
      refine O.load hE T73 rfl rfl rfl rfl ?_
      refine O.alloc hE 10 T73 rfl rfl rfl ?_
      refine O.store hE T73 rfl rfl rfl rfl rfl rfl ?_
      refine O.nil ?_
      try refine Run.keep [0,1,2,3,6,7,8,10,14,15,16,17,23] rfl rfl ?_
      repeat (first | refine Run.seq ?_ | refine Run.skip ?_ | refine Run.block ?_)
      refine Run.region ?_
      refine O.load hE T73 rfl rfl rfl rfl ?_
      refine O.move rfl rfl ?_
      refine O.callE cq rfl (by first | rfl | simp [closed, men3, mens2_app, mens2_ints, mens2, men2, men1, mens1_app, mens1_ints, mens1]) (by first | rfl | simp [d2, ds1_ints, ds1_app, ds1, d1, ds0_app, ds0_ints, ds0, d0]) rfl ?_
      refine O.un rfl rfl rfl rfl rfl ?_
      refine O.nil ?_
      try refine Run.keep [0,1,2,3,6,7,8,10,14,15,16,17,23] rfl rfl ?_
      repeat (first | refine Run.seq ?_ | refine Run.skip ?_)
      first | refine Run.condT rfl rfl ?_ | refine Run.condF rfl rfl ?_ | refine Run.condT rfl (by assumption) ?_ | refine Run.condF rfl (by assumption) ?_
      repeat (first | refine Run.seq ?_ | refine Run.skip ?_ | refine Run.block ?_)
      refine Run.region ?_
      refine O.field hE L73 rfl rfl rfl rfl ?_
      first | refine O.loadS hE T4 rfl rfl rfl (by rfl) rfl ?_ | refine O.loadE hE T4 rfl rfl (by rfl) rfl ?_ | refine O.load hE T4 rfl rfl rfl rfl ?_
      refine O.move rfl rfl ?_
      first | (refine O.yes rfl rfl (by trivial) ?_; refine O.field hE L73 rfl rfl rfl rfl ?_) | refine O.no rfl rfl rfl rfl ?_
      first | (refine O.yes rfl rfl (by trivial) ?_; first | refine O.loadS hE T4 rfl rfl rfl (by rfl) rfl ?_ | refine O.loadE hE T4 rfl rfl (by rfl) rfl ?_ | refine O.load hE T4 rfl rfl rfl rfl ?_) | refine O.no rfl rfl rfl rfl ?_
      refine O.pick rfl rfl rfl rfl rfl ?_
      refine O.field hE L73 rfl rfl rfl rfl ?_
      refine O.store hE T4 rfl rfl rfl rfl rfl rfl ?_
      refine O.nil ?_
      try refine Run.keep [0,1,2,3,6,7,8,10,14,15,16,17,23] rfl rfl ?_
      repeat (first | refine Run.seq ?_ | refine Run.skip ?_ | refine Run.block ?_)
      refine Run.region ?_
      first | refine O.ar rfl rfl rfl (by exact wrap_i64 (by omega) (by omega)) rfl ?_ | refine O.ar rfl rfl rfl rfl rfl ?_
      refine O.move rfl rfl ?_
      refine O.nil ?_
      try refine Run.keep [0,1,2,3,6,7,8,10,14,15,16,17,23] rfl rfl ?_
      exact ih 2 _ (SLe.drop (by repeat (first | exact TmIn.nil | refine TmIn.cons rfl ?_)) (by repeat (first | exact BxIn.nil | refine BxIn.cons rfl ?_)) rfl rfl) (by omega) (by omega)
  ·
    repeat (first | refine Run.seq ?_ | refine Run.skip ?_ | refine Run.block ?_)
    refine Run.region ?_
    first | refine O.cmp rfl rfl rfl (by first | exact dT (by omega) | exact dF (by omega)) rfl ?_ | refine O.cmp rfl rfl rfl rfl rfl ?_
    refine O.nil ?_
    try refine Run.keep [0,1,2,3,6,7,8,10,14,15,16,17,23] rfl rfl ?_
    repeat (first | refine Run.seq ?_ | refine Run.skip ?_)
    first | refine Run.condT rfl rfl ?_ | refine Run.condF rfl rfl ?_ | refine Run.condT rfl (by assumption) ?_ | refine Run.condF rfl (by assumption) ?_
    refine Run.exit ?_
    repeat (first | refine thenR_exit ?_ | refine roundR_exit ?_ | refine blockR_exit ?_ | refine blockR_pass rfl ?_)
    repeat (first | refine Run.seq ?_ | refine Run.skip ?_ | refine Run.block ?_)
    refine Run.region ?_
    refine O.load hE T73 rfl rfl rfl rfl ?_
    refine O.store hE T73 rfl rfl rfl rfl rfl rfl ?_
    refine O.assign rfl rfl ?_
    refine O.nil ?_
    try refine Run.keep [0,1,2,3,6,7,8,10,14,15,16,17,23] rfl rfl ?_
    refine Run.ret ?_
    exact Ends.of hE (.inr rfl) rfl rfl (SLe.drop (by repeat (first | exact TmIn.nil | refine TmIn.cons rfl ?_)) (by repeat (first | exact BxIn.nil | refine BxIn.cons rfl ?_)) rfl rfl)
/-- What one sort makes. -/
def join1 (op : Int) (s : Srt) : Srt := if op = 17 then ⟨1, false⟩ else ⟨if op = 4 then 1 else 2, s.nl⟩
/-- What two sorts make. -/
def join2 (op : Int) (s t : Srt) : Srt := if op = 20 then ⟨if s.kd = 0 then t.kd else s.kd, s.nl && t.nl⟩ else ⟨gives op, s.nl || t.nl⟩
theorem kindP_un (cs : List Kol) (op : Int) (a : Xp) : kindP cs (.un op a) = join1 op (kindP cs a) := rfl
theorem kindP_bi (cs : List Kol) (op : Int) (a b : Xp) : kindP cs (.bi op a b) = join2 op (kindP cs a) (kindP cs b) := rfl
theorem fnJoin1 {op k ka : Int} (h : UnTy op k ka) {s : Srt} (hs : s.kd = ka ∨ s.kd = 0) : FnC (En Tryd.prog g) 47 [.pv (.int .i64 op), .pv (.int .i64 1), .agg [.pv (.int .i64 s.kd), .pv (.bool s.nl), .pv (.int .i64 0), .pv (.bool false)]] (.tup [srtA (join1 op s), .pv (.int .i64 0)]) [] := by
  have hE := EnOk g
  rcases h with ⟨rfl, rfl, rfl⟩ | ⟨rfl, rfl, rfl⟩ | ⟨rfl, rfl, rfl⟩ | ⟨rfl, rfl, hk1, hk2⟩
  ·
    have ca := fnAsks1 (g := g) (gv := 2) hs
    rw [show join1 3 s = ⟨2, s.nl⟩ from rfl]
    exact FnC.go hE mixed Tryd.func47 [(13, .b true), (19, .ln _ _ _ _ _ _ ca)]
  ·
    have ca := fnAsks1 (g := g) (gv := 1) hs
    rw [show join1 4 s = ⟨1, s.nl⟩ from rfl]
    exact FnC.go hE mixed Tryd.func47 [(13, .b false), (14, .b false), (15, .b false), (16, .b false), (17, .b false), (23, .b true), (27, .ln _ _ _ _ _ _ ca)]
  ·
    have ca := fnAsks1 (g := g) (gv := 2) hs
    rw [show join1 18 s = ⟨2, s.nl⟩ from rfl]
    exact FnC.go hE mixed Tryd.func47 [(13, .b false), (14, .b false), (15, .b false), (16, .b false), (17, .b false), (23, .b false), (24, .b false), (25, .b false), (31, .b true), (33, .ln _ _ _ _ _ _ ca)]
  ·
    rw [show join1 17 s = ⟨1, false⟩ from rfl]
    exact FnC.go hE mixed Tryd.func47 [(13, .b false), (14, .b false), (15, .b false), (16, .b false), (17, .b false), (23, .b false), (24, .b false), (25, .b false), (31, .b false), (37, .b false), (43, .b true)]
theorem fnJoin2 {op k ka : Int} (h : BiTy op k ka) {s t : Srt} (hs : s.kd = ka ∨ s.kd = 0) (ht : t.kd = ka ∨ t.kd = 0) : FnC (En Tryd.prog g) 47 [.pv (.int .i64 op), .pv (.int .i64 2), .agg [.pv (.int .i64 s.kd), .pv (.bool s.nl), .pv (.int .i64 t.kd), .pv (.bool t.nl)]] (.tup [srtA (join2 op s t), .pv (.int .i64 0)]) [] := by
  have hE := EnOk g
  have hw := fnWith (g := g) s t
  have hz : ∀ u : Srt, (u = s ∨ u = t) → u.kd = (if s.kd = 0 then t.kd else s.kd) ∨ u.kd = 0 := by
    rintro u (rfl | rfl)
    · by_cases h0 : u.kd = 0
      · exact .inr h0
      · left; rw [if_neg h0]
    · by_cases h0 : s.kd = 0
      · left; rw [if_pos h0]
      · rw [if_neg h0]; omega
  have f1 := fnFits (g := g) (hz s (.inl rfl))
  have f2 := fnFits (g := g) (hz t (.inr rfl))
  rcases h with ⟨h5, h8, rfl, rfl⟩ | ⟨h15, h16, rfl, rfl⟩ | ⟨rfl, rfl, rfl⟩ | ⟨rfl, rfl⟩ | ⟨h9, h14, rfl, hk1, hk2⟩
  ·
    have ca := fnAsks2 (g := g) (gv := 2) hs ht
    have ho : op = 5 ∨ op = 6 ∨ op = 7 ∨ op = 8 := by omega
    rcases ho with rfl | rfl | rfl | rfl
    ·
      rw [show join2 5 s t = ⟨2, s.nl || t.nl⟩ from rfl]
      exact FnC.go hE mixed Tryd.func47 [(13, .b false), (14, .b true), (19, .ln _ _ _ _ _ _ ca)]
    ·
      rw [show join2 6 s t = ⟨2, s.nl || t.nl⟩ from rfl]
      exact FnC.go hE mixed Tryd.func47 [(13, .b false), (14, .b false), (15, .b true), (19, .ln _ _ _ _ _ _ ca)]
    ·
      rw [show join2 7 s t = ⟨2, s.nl || t.nl⟩ from rfl]
      exact FnC.go hE mixed Tryd.func47 [(13, .b false), (14, .b false), (15, .b false), (16, .b true), (19, .ln _ _ _ _ _ _ ca)]
    ·
      rw [show join2 8 s t = ⟨2, s.nl || t.nl⟩ from rfl]
      exact FnC.go hE mixed Tryd.func47 [(13, .b false), (14, .b false), (15, .b false), (16, .b false), (17, .b true), (19, .ln _ _ _ _ _ _ ca)]
  ·
    have ca := fnAsks2 (g := g) (gv := 1) hs ht
    have ho : op = 15 ∨ op = 16 := by omega
    rcases ho with rfl | rfl
    ·
      rw [show join2 15 s t = ⟨1, s.nl || t.nl⟩ from rfl]
      exact FnC.go hE mixed Tryd.func47 [(13, .b false), (14, .b false), (15, .b false), (16, .b false), (17, .b false), (23, .b false), (24, .b true), (27, .ln _ _ _ _ _ _ ca)]
    ·
      rw [show join2 16 s t = ⟨1, s.nl || t.nl⟩ from rfl]
      exact FnC.go hE mixed Tryd.func47 [(13, .b false), (14, .b false), (15, .b false), (16, .b false), (17, .b false), (23, .b false), (24, .b false), (25, .b true), (27, .ln _ _ _ _ _ _ ca)]
  ·
    have ca := fnAsks2 (g := g) (gv := 4) hs ht
    rw [show join2 19 s t = ⟨4, s.nl || t.nl⟩ from rfl]
    exact FnC.go hE mixed Tryd.func47 [(13, .b false), (14, .b false), (15, .b false), (16, .b false), (17, .b false), (23, .b false), (24, .b false), (25, .b false), (31, .b false), (37, .b true), (39, .ln _ _ _ _ _ _ ca)]
  ·
    obtain ⟨sk, sn⟩ := s
    obtain ⟨tk, tn⟩ := t
    rw [show join2 20 ⟨sk, sn⟩ ⟨tk, tn⟩ = ⟨if sk = 0 then tk else sk, sn && tn⟩ from rfl]
    dsimp only at hw f1 f2 ⊢
    generalize (if sk = 0 then tk else sk) = z at *
    cases sn
    ·
      exact FnC.go hE mixed Tryd.func47 [(13, .b false), (14, .b false), (15, .b false), (16, .b false), (17, .b false), (23, .b false), (24, .b false), (25, .b false), (31, .b false), (37, .b false), (43, .b false), (49, .fn _ _ _ hw), (54, .fn _ _ _ f1), (61, .fn _ _ _ f2), (66, .b true)]
    ·
      exact FnC.go hE mixed Tryd.func47 [(13, .b false), (14, .b false), (15, .b false), (16, .b false), (17, .b false), (23, .b false), (24, .b false), (25, .b false), (31, .b false), (37, .b false), (43, .b false), (49, .fn _ _ _ hw), (54, .fn _ _ _ f1), (61, .fn _ _ _ f2), (66, .b true)]
  ·
    have o1 : op ≠ 3 ∧ op ≠ 4 ∧ op ≠ 5 ∧ op ≠ 6 ∧ op ≠ 7 ∧ op ≠ 8 ∧ op ≠ 15 ∧ op ≠ 16 ∧ op ≠ 17 ∧ op ≠ 18 ∧ op ≠ 19 ∧ op ≠ 20 := by omega
    obtain ⟨o3, o4, o5, o6, o7, o8, o15, o16, o17, o18, o19, o20⟩ := o1
    have hg : join2 op s t = ⟨1, s.nl || t.nl⟩ := by
      unfold join2 gives
      rw [if_neg o20, if_neg o19, if_pos (by omega)]
    rw [hg]
    obtain ⟨sk, sn⟩ := s
    obtain ⟨tk, tn⟩ := t
    dsimp only at hw f1 f2 ⊢
    generalize (if sk = 0 then tk else sk) = z at *
    exact FnC.go hE mixed Tryd.func47 [(13, .b false), (14, .b false), (15, .b false), (16, .b false), (17, .b false), (23, .b false), (24, .b false), (25, .b false), (31, .b false), (37, .b false), (43, .b false), (49, .fn _ _ _ hw), (54, .fn _ _ _ f1), (61, .fn _ _ _ f2), (66, .b false)]
end Go.Proofs.YtdigejpgjnhclaaDoor.Vm
end
section
section
namespace Go.Proofs.YtdigejpgjnhclaaDoor.Vm
open Go Go.RowKit Go.Lib
set_option linter.unusedVariables false
set_option linter.unusedSimpArgs false
attribute [local irreducible] Ops Dr Run
variable {g : Nat → Option (List PV)}
theorem kol_at {cs : List Kol} {j : Nat} {c : Kol} (h : cs[j]? = some c) : (cs.map kolE)[(j : Int).toNat]? = some (kolE c) := by
  rw [Int.toNat_natCast, List.getElem?_map, h]; rfl
theorem fnColumns {cs : List Kol} (h : ColsOk cs) : FnC (En Tryd.prog g) 34 [.pv (.lst 3 (cs.map kolE))] (.pv (.int .i64 0)) [] := by
  have hE := EnOk g
  obtain ⟨hlen, hok, hap⟩ := h
  have hlm : (cs.map kolE).length = cs.length := by simp
  refine FnC.of Tryd.func34 rfl rfl rfl rfl ?_
  repeat (first | refine Run.seq ?_ | refine Run.skip ?_ | refine Run.block ?_)
  refine Run.region ?_
  refine O.assign rfl rfl ?_
  refine O.nil ?_
  try refine Run.keep [0,2,3,4,6,9,10,11,12,13,21,29,32,33,34,35,42] rfl rfl ?_
  repeat (first | refine Run.seq ?_ | refine Run.skip ?_ | refine Run.block ?_)
  refine Run.region ?_
  refine O.move rfl rfl ?_
  first | refine O.lenN hE T29 rfl rfl rfl (by first | exact newest_pv | exact newest_gl rfl rfl | trivial) lenC rfl ?_ | refine O.lenLst hE T29 rfl rfl rfl (by first | exact newest_pv | exact newest_gl rfl rfl | trivial) rfl ?_
  first | refine O.cmp rfl rfl rfl (by first | exact dT (by omega) | exact dF (by omega)) rfl ?_ | refine O.cmp rfl rfl rfl rfl rfl ?_
  refine O.nil ?_
  try refine Run.keep [0,2,3,4,6,9,10,11,12,13,21,29,32,33,34,35,42] rfl rfl ?_
  repeat (first | refine Run.seq ?_ | refine Run.skip ?_)
  first | refine Run.condT rfl rfl ?_ | refine Run.condF rfl rfl ?_ | refine Run.condT rfl (by assumption) ?_ | refine Run.condF rfl (by assumption) ?_
  repeat (first | refine Run.seq ?_ | refine Run.skip ?_ | refine Run.block ?_)
  refine Run.region ?_
  refine O.move rfl rfl ?_
  first | refine O.lenN hE T29 rfl rfl rfl (by first | exact newest_pv | exact newest_gl rfl rfl | trivial) lenC rfl ?_ | refine O.lenLst hE T29 rfl rfl rfl (by first | exact newest_pv | exact newest_gl rfl rfl | trivial) rfl ?_
  refine O.move rfl rfl ?_
  refine O.nil ?_
  try refine Run.keep [0,2,3,4,6,9,10,11,12,13,21,29,32,33,34,35,42] rfl rfl ?_
  repeat (first | refine Run.seq ?_ | refine Run.skip ?_)
  refine Run.block ?_
  refine Run.loopInv (ι := Nat) (fun j => j ≤ cs.length)
    (fun j => ⟨45, [(0, .pv (.lst 3 (cs.map kolE))), (10, .pv (.lst 3 (cs.map kolE))), (11, .pv (.int .i64 cs.length)), (12, .pv (.int .i64 j))], []⟩) (fun j => cs.length - j) 0 (by omega) ?_ ?_
  ·
    exact SLe.drop (by repeat (first | exact TmIn.nil | refine TmIn.cons rfl ?_)) (by repeat (first | exact BxIn.nil | refine BxIn.cons rfl ?_)) rfl rfl
  rintro j hj ih
  by_cases hlt : j < cs.length
  ·
    obtain ⟨c, hc⟩ : ∃ c, cs[j]? = some c := ⟨_, List.getElem?_eq_getElem hlt⟩
    have hat := kol_at hc
    obtain ⟨hn, hk1, hk4⟩ := hok c (List.mem_of_getElem? hc)
    have c1 := fnLexName (g := g) hn
    have hys : ((cs.map kolE).take (j : Int).toNat).drop (0 : Int).toNat = (cs.take j).map kolE := by rw [Int.toNat_natCast, List.map_take]; rfl
    have htl : ((cs.take j).map kolE).length = j := by simp; omega
    have hne : ∀ (i : Nat) (d : Kol), (cs.take j)[i]? = some d → (d.nm.toList == c.nm.toList) = false := by
      intro i d hd
      have hij : i < j := by
        have := List.getElem?_eq_some_iff.1 hd
        obtain ⟨h1, _⟩ := this
        rw [List.length_take] at h1
        omega
      rw [List.getElem?_take, if_pos hij] at hd
      have hp := List.pairwise_iff_getElem.1 hap i j (by omega) hlt hij
      have e1 : cs[i]'(by omega) = d := by
        have := List.getElem?_eq_getElem (l := cs) (i := i) (by omega)
        rw [hd] at this
        exact (Option.some.inj this).symm
      have e2 : cs[j] = c := by
        have := List.getElem?_eq_getElem hlt
        rw [hc] at this
        exact (Option.some.inj this).symm
      rw [e1, e2] at hp
      exact hp
    obtain ⟨ck, ckd, cnl⟩ := c
    dsimp only at hk1 hk4 c1 hne
    dsimp only [kolE] at hat
    generalize hT : cs.take j = T at *
    have hTl : T.length = j := by rw [← hT, List.length_take]; omega
    repeat (first | refine Run.seq ?_ | refine Run.skip ?_ | refine Run.block ?_)
    refine Run.region ?_
    first | refine O.cmp rfl rfl rfl (by first | exact dT (by omega) | exact dF (by omega)) rfl ?_ | refine O.cmp rfl rfl rfl rfl rfl ?_
    refine O.nil ?_
    try refine Run.keep [0,2,3,4,6,9,10,11,12,13,21,29,32,33,34,35,42] rfl rfl ?_
    repeat (first | refine Run.seq ?_ | refine Run.skip ?_)
    first | refine Run.condT rfl rfl ?_ | refine Run.condF rfl rfl ?_ | refine Run.condT rfl (by assumption) ?_ | refine Run.condF rfl (by assumption) ?_
    repeat (first | refine Run.seq ?_ | refine Run.skip ?_ | refine Run.block ?_)
    refine Run.region ?_
    refine O.move rfl rfl ?_
    refine O.index hE T29 rfl T37 rfl rfl (by first | exact newest_pv | exact newest_gl rfl rfl | trivial) rfl (by omega) (by first | assumption | rfl) rfl rfl rfl ?_
    refine O.load hE T37 rfl rfl rfl rfl ?_
    refine O.alloc hE 4 T37 rfl rfl rfl ?_
    refine O.assign rfl rfl ?_
    refine O.store hE T37 rfl rfl rfl rfl rfl rfl ?_
    refine O.nil ?_
    try refine Run.keep [0,2,3,4,6,9,10,11,12,13,21,29,32,33,34,35,42] rfl rfl ?_
    repeat (first | refine Run.seq ?_ | refine Run.skip ?_ | refine Run.block ?_)
    refine Run.region ?_
    refine O.field hE L37 rfl rfl rfl rfl ?_
    first | refine O.loadS hE T9 rfl rfl rfl (by rfl) rfl ?_ | refine O.loadE hE T9 rfl rfl (by rfl) rfl ?_ | refine O.load hE T9 rfl rfl rfl rfl ?_
    refine O.build hE T90 L90 rfl rfl rfl ?_
    refine O.callE c1 rfl (by first | rfl | simp [closed, men3, mens2_app, mens2_ints, mens2, men2, men1, mens1_app, mens1_ints, mens1]) (by first | rfl | simp [d2, ds1_ints, ds1_app, ds1, d1, ds0_app, ds0_ints, ds0, d0]) rfl ?_
    first | refine O.cmp rfl rfl rfl (by first | exact dT (by omega) | exact dF (by omega)) rfl ?_ | refine O.cmp rfl rfl rfl rfl rfl ?_
    refine O.nil ?_
    try refine Run.keep [0,2,3,4,6,9,10,11,12,13,21,29,32,33,34,35,42] rfl rfl ?_
    repeat (first | refine Run.seq ?_ | refine Run.skip ?_)
    first | refine Run.condT rfl rfl ?_ | refine Run.condF rfl rfl ?_ | refine Run.condT rfl (by assumption) ?_ | refine Run.condF rfl (by assumption) ?_
    repeat (first | refine Run.seq ?_ | refine Run.skip ?_ | refine Run.block ?_)
    refine Run.region ?_
    refine O.field hE L37 rfl rfl rfl rfl ?_
    first | refine O.loadS hE T3 rfl rfl rfl (by rfl) rfl ?_ | refine O.loadE hE T3 rfl rfl (by rfl) rfl ?_ | refine O.load hE T3 rfl rfl rfl rfl ?_
    first | refine O.cmp rfl rfl rfl (by first | exact dT (by omega) | exact dF (by omega)) rfl ?_ | refine O.cmp rfl rfl rfl rfl rfl ?_
    refine O.move rfl rfl ?_
    first | (refine O.yes rfl rfl (by trivial) ?_; refine O.field hE L37 rfl rfl rfl rfl ?_) | refine O.no rfl rfl rfl rfl ?_
    first | (refine O.yes rfl rfl (by trivial) ?_; first | refine O.loadS hE T3 rfl rfl rfl (by rfl) rfl ?_ | refine O.loadE hE T3 rfl rfl (by rfl) rfl ?_ | refine O.load hE T3 rfl rfl rfl rfl ?_) | refine O.no rfl rfl rfl rfl ?_
    first | (refine O.yes rfl rfl (by trivial) ?_; first | refine O.cmp rfl rfl rfl (by first | exact dT (by omega) | exact dF (by omega)) rfl ?_ | refine O.cmp rfl rfl rfl rfl rfl ?_) | refine O.no rfl rfl rfl rfl ?_
    refine O.pick rfl rfl rfl rfl rfl ?_
    refine O.nil ?_
    try refine Run.keep [0,2,3,4,6,9,10,11,12,13,21,29,32,33,34,35,42] rfl rfl ?_
    repeat (first | refine Run.seq ?_ | refine Run.skip ?_)
    first | refine Run.condT rfl rfl ?_ | refine Run.condF rfl rfl ?_ | refine Run.condT rfl (by assumption) ?_ | refine Run.condF rfl (by assumption) ?_
    repeat (first | refine Run.seq ?_ | refine Run.skip ?_ | refine Run.block ?_)
    refine Run.region ?_
    refine O.move rfl rfl ?_
    refine O.move rfl rfl ?_
    refine O.slice hE T29 rfl T37 rfl rfl newest_pv rfl rfl rfl (by omega) (by omega) (by rw [hlm]; omega) hys rfl ?_
    first | refine O.lenN hE T29 rfl rfl rfl (by first | exact newest_pv | exact newest_gl rfl rfl | trivial) lenC rfl ?_ | refine O.lenLst hE T29 rfl rfl rfl (by first | exact newest_pv | exact newest_gl rfl rfl | trivial) rfl ?_
    refine O.move rfl rfl ?_
    refine O.nil ?_
    try refine Run.keep [0,2,3,4,6,9,10,11,12,13,21,29,32,33,34,35,42] rfl rfl ?_
    repeat (first | refine Run.seq ?_ | refine Run.skip ?_)
    refine Run.block ?_
    refine Run.loopInv (ι := Nat) (fun i => i ≤ j)
      (fun i => ⟨45, [(0, .pv (.lst 3 (cs.map kolE))), (4, .ptr 4 0), (10, .pv (.lst 3 (cs.map kolE))), (11, .pv (.int .i64 cs.length)), (12, .pv (.int .i64 j)), (32, .pv (.lst 3 (T.map kolE))), (33, .pv (.int .i64 T.length)), (34, .pv (.int .i64 i))], [(4, .var [.pv (.str ck), .pv (.int .i64 ckd), .pv (.bool cnl)])]⟩) (fun i => j - i) 0 (by omega) ?_ ?_
    ·
      exact SLe.drop (by repeat (first | exact TmIn.nil | refine TmIn.cons rfl ?_)) (by repeat (first | exact BxIn.nil | refine BxIn.cons rfl ?_)) rfl rfl
    rintro i hi ih2
    by_cases hlt2 : i < j
    ·
      obtain ⟨d, hd⟩ : ∃ d, T[i]? = some d := ⟨_, List.getElem?_eq_getElem (by omega)⟩
      have hat2 := kol_at hd
      have hne2 := hne i d hd
      obtain ⟨dk, dkd, dnl⟩ := d
      dsimp only at hne2
      dsimp only [kolE] at hat2
      repeat (first | refine Run.seq ?_ | refine Run.skip ?_ | refine Run.block ?_)
      refine Run.region ?_
      first | refine O.cmp rfl rfl rfl (by first | exact dT (by omega) | exact dF (by omega)) rfl ?_ | refine O.cmp rfl rfl rfl rfl rfl ?_
      refine O.nil ?_
      try refine Run.keep [0,2,3,4,6,9,10,11,12,13,21,29,32,33,34,35,42] rfl rfl ?_
      repeat (first | refine Run.seq ?_ | refine Run.skip ?_)
      first | refine Run.condT rfl rfl ?_ | refine Run.condF rfl rfl ?_ | refine Run.condT rfl (by assumption) ?_ | refine Run.condF rfl (by assumption) ?_
      repeat (first | refine Run.seq ?_ | refine Run.skip ?_ | refine Run.block ?_)
      refine Run.region ?_
      refine O.index hE T29 rfl T37 rfl rfl (by first | exact newest_pv | exact newest_gl rfl rfl | trivial) rfl (by omega) (by first | assumption | rfl) rfl rfl rfl ?_
      refine O.load hE T37 rfl rfl rfl rfl ?_
      refine O.alloc hE 6 T37 rfl rfl rfl ?_
      refine O.store hE T37 rfl rfl rfl rfl rfl rfl ?_
      refine O.nil ?_
      try refine Run.keep [0,2,3,4,6,9,10,11,12,13,21,29,32,33,34,35,42] rfl rfl ?_
      repeat (first | refine Run.seq ?_ | refine Run.skip ?_ | refine Run.block ?_)
      refine Run.region ?_
      refine O.field hE L37 rfl rfl rfl rfl ?_
      first | refine O.loadS hE T9 rfl rfl rfl (by rfl) rfl ?_ | refine O.loadE hE T9 rfl rfl (by rfl) rfl ?_ | refine O.load hE T9 rfl rfl rfl rfl ?_
      refine O.field hE L37 rfl rfl rfl rfl ?_
      first | refine O.loadS hE T9 rfl rfl rfl (by rfl) rfl ?_ | refine O.loadE hE T9 rfl rfl (by rfl) rfl ?_ | refine O.load hE T9 rfl rfl rfl rfl ?_
      refine O.strEqK rfl rfl hne2 rfl ?_
      refine O.nil ?_
      try refine Run.keep [0,2,3,4,6,9,10,11,12,13,21,29,32,33,34,35,42] rfl rfl ?_
      repeat (first | refine Run.seq ?_ | refine Run.skip ?_)
      first | refine Run.condT rfl rfl ?_ | refine Run.condF rfl rfl ?_ | refine Run.condT rfl (by assumption) ?_ | refine Run.condF rfl (by assumption) ?_
      repeat (first | refine Run.seq ?_ | refine Run.skip ?_ | refine Run.block ?_)
      refine Run.region ?_
      first | refine O.ar rfl rfl rfl (by exact wrap_i64 (by omega) (by omega)) rfl ?_ | refine O.ar rfl rfl rfl rfl rfl ?_
      refine O.move rfl rfl ?_
      refine O.nil ?_
      try refine Run.keep [0,2,3,4,6,9,10,11,12,13,21,29,32,33,34,35,42] rfl rfl ?_
      refine ih2 (i + 1) _ ?_ (by omega) (by omega)
      exact SLe.drop (by repeat (first | exact TmIn.nil | refine TmIn.cons rfl ?_)) (by repeat (first | exact BxIn.nil | refine BxIn.cons rfl ?_)) rfl rfl
    have hi' : i = T.length := by omega
    subst hi'
    repeat (first | refine Run.seq ?_ | refine Run.skip ?_ | refine Run.block ?_)
    refine Run.region ?_
    first | refine O.cmp rfl rfl rfl (by first | exact dT (by omega) | exact dF (by omega)) rfl ?_ | refine O.cmp rfl rfl rfl rfl rfl ?_
    refine O.nil ?_
    try refine Run.keep [0,2,3,4,6,9,10,11,12,13,21,29,32,33,34,35,42] rfl rfl ?_
    repeat (first | refine Run.seq ?_ | refine Run.skip ?_)
    first | refine Run.condT rfl rfl ?_ | refine Run.condF rfl rfl ?_ | refine Run.condT rfl (by assumption) ?_ | refine Run.condF rfl (by assumption) ?_
    refine Run.exit ?_
    repeat (first | refine thenR_exit ?_ | refine roundR_exit ?_ | refine blockR_exit ?_ | refine blockR_pass rfl ?_)
    repeat (first | refine Run.seq ?_ | refine Run.skip ?_ | refine Run.block ?_)
    refine Run.region ?_
    first | refine O.ar rfl rfl rfl (by exact wrap_i64 (by omega) (by omega)) rfl ?_ | refine O.ar rfl rfl rfl rfl rfl ?_
    refine O.move rfl rfl ?_
    refine O.nil ?_
    try refine Run.keep [0,2,3,4,6,9,10,11,12,13,21,29,32,33,34,35,42] rfl rfl ?_
    refine ih (j + 1) _ ?_ (by omega) (by omega)
    exact SLe.drop (by repeat (first | exact TmIn.nil | refine TmIn.cons rfl ?_)) (by repeat (first | exact BxIn.nil | refine BxIn.cons rfl ?_)) rfl rfl
  have hj' : j = cs.length := by omega
  subst hj'
  repeat (first | refine Run.seq ?_ | refine Run.skip ?_ | refine Run.block ?_)
  refine Run.region ?_
  first | refine O.cmp rfl rfl rfl (by first | exact dT (by omega) | exact dF (by omega)) rfl ?_ | refine O.cmp rfl rfl rfl rfl rfl ?_
  refine O.nil ?_
  try refine Run.keep [0,2,3,4,6,9,10,11,12,13,21,29,32,33,34,35,42] rfl rfl ?_
  repeat (first | refine Run.seq ?_ | refine Run.skip ?_)
  first | refine Run.condT rfl rfl ?_ | refine Run.condF rfl rfl ?_ | refine Run.condT rfl (by assumption) ?_ | refine Run.condF rfl (by assumption) ?_
  refine Run.exit ?_
  repeat (first | refine thenR_exit ?_ | refine roundR_exit ?_ | refine blockR_exit ?_ | refine blockR_pass rfl ?_)
  repeat (first | refine Run.seq ?_ | refine Run.skip ?_ | refine Run.block ?_)
  refine Run.region ?_
  refine O.assign rfl rfl ?_
  refine O.nil ?_
  try refine Run.keep [0,2,3,4,6,9,10,11,12,13,21,29,32,33,34,35,42] rfl rfl ?_
  (repeat (first | refine Run.seq ?_ | refine Run.skip ?_)); (try refine Run.ret ?_); first | exact Ends.flat hE (.inr rfl) rfl rfl (AVle.of_eq rfl) rfl | exact Ends.flat hE (.inl rfl) rfl rfl (AVle.of_eq rfl) rfl
end Go.Proofs.YtdigejpgjnhclaaDoor.Vm
end
section
namespace Go.Proofs.YtdigejpgjnhclaaDoor.Vm
open Go Go.RowKit Go.Lib
set_option linter.unusedVariables false
set_option linter.unusedSimpArgs false
attribute [local irreducible] Ops Dr Run
variable {g : Nat → Option (List PV)}
def cel1 (s : Srt) : Nat → List AV
  | 0 => [.pv (.int .i64 0), .pv (.bool false), .pv (.int .i64 0), .pv (.bool false)]
  | _ + 1 => [.pv (.int .i64 s.kd), .pv (.bool s.nl), .pv (.int .i64 0), .pv (.bool false)]
theorem fnOf1 {cs : List Kol} {op : Int} {a : Xp} {s r : Srt} (hop : op ≠ 1 ∧ op ≠ 2) (ha : FnC (En Tryd.prog g) 35 [xA a, .pv (.lst 3 (cs.map kolE))] (.tup [srtA s, .pv (.int .i64 0)]) []) 
    (hj : FnC (En Tryd.prog g) 47 [.pv (.int .i64 op), .pv (.int .i64 1), .agg [.pv (.int .i64 s.kd), .pv (.bool s.nl), .pv (.int .i64 0), .pv (.bool false)]] (.tup [srtA r, .pv (.int .i64 0)]) []) :
    FnC (En Tryd.prog g) 35 [xA (.un op a), .pv (.lst 3 (cs.map kolE))] (.tup [srtA r, .pv (.int .i64 0)]) [] := by
  have hE := EnOk g
  obtain ⟨o1, o2⟩ := hop
  obtain ⟨rk, rn⟩ := r
  obtain ⟨sk, sn⟩ := s
  dsimp only [xA, Xp.op, Xp.v, Xp.nm, Xp.as] at ha hj ⊢
  refine FnC.of Tryd.func35 rfl rfl rfl rfl ?_
  repeat (first | refine Run.seq ?_ | refine Run.skip ?_ | refine Run.block ?_)
  refine Run.region ?_
  refine O.box 2 rfl (by first | rfl | exact cells_ones (by simp [ones_app, ones_ints, ones, AV.one, PV.one])) rfl rfl ?_
  refine O.alloc hE 4 T73 rfl rfl rfl ?_
  refine O.assign rfl rfl ?_
  refine O.nil ?_
  try refine Run.keep [0,1,2,4,5,7,8,9,10,11,12,14,15,25,27,28,29,30,37,46,47,48,49,60] rfl rfl ?_
  repeat (first | refine Run.seq ?_ | refine Run.skip ?_ | refine Run.block ?_)
  refine Run.region ?_
  refine O.field hE L28 rfl rfl rfl rfl ?_
  first | refine O.loadS hE T3 rfl rfl rfl (by rfl) rfl ?_ | refine O.loadE hE T3 rfl rfl (by rfl) rfl ?_ | refine O.load hE T3 rfl rfl rfl rfl ?_
  refine O.nil ?_
  try refine Run.keep [0,1,2,4,5,7,8,9,10,11,12,14,15,25,27,28,29,30,37,46,47,48,49,60] rfl rfl ?_
  repeat (first | refine Run.seq ?_ | refine Run.skip ?_ | refine Run.block ?_)
  refine Run.region ?_
  first | refine O.cmp rfl rfl rfl (by first | exact dT (by omega) | exact dF (by omega)) rfl ?_ | refine O.cmp rfl rfl rfl rfl rfl ?_
  refine O.assign rfl rfl ?_
  refine O.nil ?_
  try refine Run.keep [0,1,2,4,5,7,8,9,10,11,12,14,15,25,27,28,29,30,37,46,47,48,49,60] rfl rfl ?_
  repeat (first | refine Run.seq ?_ | refine Run.skip ?_)
  first | refine Run.condT rfl rfl ?_ | refine Run.condF rfl rfl ?_ | refine Run.condT rfl (by assumption) ?_ | refine Run.condF rfl (by assumption) ?_
  repeat (first | refine Run.seq ?_ | refine Run.skip ?_ | refine Run.block ?_)
  refine Run.region ?_
  first | refine O.cmp rfl rfl rfl (by first | exact dT (by omega) | exact dF (by omega)) rfl ?_ | refine O.cmp rfl rfl rfl rfl rfl ?_
  refine O.assign rfl rfl ?_
  refine O.nil ?_
  try refine Run.keep [0,1,2,4,5,7,8,9,10,11,12,14,15,25,27,28,29,30,37,46,47,48,49,60] rfl rfl ?_
  repeat (first | refine Run.seq ?_ | refine Run.skip ?_)
  first | refine Run.condT rfl rfl ?_ | refine Run.condF rfl rfl ?_ | refine Run.condT rfl (by assumption) ?_ | refine Run.condF rfl (by assumption) ?_
  repeat (first | refine Run.seq ?_ | refine Run.skip ?_ | refine Run.block ?_)
  refine Run.region ?_
  first | refine O.allocS hE 8 T91 ints_zero rfl rfl ?_ | refine O.alloc hE 8 T91 rfl rfl rfl ?_
  refine O.nil ?_
  try refine Run.keep [0,1,2,4,5,7,8,9,10,11,12,14,15,25,27,28,29,30,37,46,47,48,49,60] rfl rfl ?_
  repeat (first | refine Run.seq ?_ | refine Run.skip ?_ | refine Run.block ?_)
  refine Run.region ?_
  refine O.field hE L28 rfl rfl rfl rfl ?_
  first | refine O.loadS hE T26 rfl rfl rfl (by rfl) rfl ?_ | refine O.loadE hE T26 rfl rfl (by rfl) rfl ?_ | refine O.load hE T26 rfl rfl rfl rfl ?_
  first | refine O.lenN hE T26 rfl rfl rfl (by first | exact newest_pv | exact newest_gl rfl rfl | trivial) lenC rfl ?_ | refine O.lenLst hE T26 rfl rfl rfl (by first | exact newest_pv | exact newest_gl rfl rfl | trivial) rfl ?_
  refine O.move rfl rfl ?_
  refine O.nil ?_
  try refine Run.keep [0,1,2,4,5,7,8,9,10,11,12,14,15,25,27,28,29,30,37,46,47,48,49,60] rfl rfl ?_
  repeat (first | refine Run.seq ?_ | refine Run.skip ?_)
  refine Run.block ?_
  refine Run.loopInv (ι := Nat) (fun j => j ≤ 1)
    (fun j => ⟨76, [(1, .pv (.lst 3 (cs.map kolE))), (2, .ptr 2 0), (4, .ptr 4 0), (5, .pv (.int .i64 0)), (8, .ptr 8 0), (46, .pv (.lst 7 [xE a])), (47, .pv (.int .i64 1)), (48, .pv (.int .i64 j))], [(8, .var (cel1 ⟨sk, sn⟩ j)), (4, .var [.pv (.int .i64 0), .pv (.bool false)]), (2, .var [.pv (.int .i64 op), .pv (.int .i64 0), .pv (.int .i64 0), .pv (.int .u64 0), .pv (.str noS), .pv (.str noS), .pv (.lst 7 [xE a])])]⟩) (fun j => 1 - j) 0 (by omega) ?_ ?_
  ·
    exact SLe.drop (by repeat (first | exact TmIn.nil | refine TmIn.cons rfl ?_)) (by repeat (first | exact BxIn.nil | refine BxIn.cons rfl ?_)) rfl rfl
  rintro j hj0 ih
  have hjc : j = 0 ∨ j = 1 := by omega
  rcases hjc with rfl | rfl
  ·
    have hat : ([xE a] : List PV)[((0 : Nat) : Int).toNat]? = some (xE a) := rfl
    repeat (first | refine Run.seq ?_ | refine Run.skip ?_ | refine Run.block ?_)
    refine Run.region ?_
    first | refine O.cmp rfl rfl rfl (by first | exact dT (by omega) | exact dF (by omega)) rfl ?_ | refine O.cmp rfl rfl rfl rfl rfl ?_
    refine O.nil ?_
    try refine Run.keep [0,1,2,4,5,7,8,9,10,11,12,14,15,25,27,28,29,30,37,46,47,48,49,60] rfl rfl ?_
    repeat (first | refine Run.seq ?_ | refine Run.skip ?_)
    first | refine Run.condT rfl rfl ?_ | refine Run.condF rfl rfl ?_ | refine Run.condT rfl (by assumption) ?_ | refine Run.condF rfl (by assumption) ?_
    repeat (first | refine Run.seq ?_ | refine Run.skip ?_ | refine Run.block ?_)
    refine Run.region ?_
    refine O.move rfl rfl ?_
    refine O.index hE T26 rfl T28 rfl rfl (by first | exact newest_pv | exact newest_gl rfl rfl | trivial) rfl (by omega) (by first | assumption | rfl) rfl rfl rfl ?_
    refine O.load hE T28 rfl rfl rfl rfl ?_
    refine O.alloc hE 10 T28 rfl rfl rfl ?_
    refine O.assign rfl rfl ?_
    refine O.store hE T28 rfl rfl rfl rfl rfl rfl ?_
    refine O.nil ?_
    try refine Run.keep [0,1,2,4,5,7,8,9,10,11,12,14,15,25,27,28,29,30,37,46,47,48,49,60] rfl rfl ?_
    repeat (first | refine Run.seq ?_ | refine Run.skip ?_ | refine Run.block ?_)
    refine Run.region ?_
    refine O.load hE T28 rfl rfl rfl rfl ?_
    refine O.move rfl rfl ?_
    refine O.callE ha rfl (by first | rfl | simp [closed, men3, mens2_app, mens2_ints, mens2, men2, men1, mens1_app, mens1_ints, mens1]) (by first | rfl | simp [d2, ds1_ints, ds1_app, ds1, d1, ds0_app, ds0_ints, ds0, d0]) rfl ?_
    refine O.move rfl rfl ?_
    refine O.extract rfl rfl rfl ?_
    refine O.extract rfl rfl rfl ?_
    refine O.alloc hE 11 T73 rfl rfl rfl ?_
    refine O.store hE T73 rfl rfl rfl rfl rfl rfl ?_
    refine O.assign rfl rfl ?_
    refine O.nil ?_
    try refine Run.keep [0,1,2,4,5,7,8,9,10,11,12,14,15,25,27,28,29,30,37,46,47,48,49,60] rfl rfl ?_
    repeat (first | refine Run.seq ?_ | refine Run.skip ?_ | refine Run.block ?_)
    refine Run.region ?_
    refine O.move rfl rfl ?_
    first | refine O.cmp rfl rfl rfl (by first | exact dT (by omega) | exact dF (by omega)) rfl ?_ | refine O.cmp rfl rfl rfl rfl rfl ?_
    refine O.nil ?_
    try refine Run.keep [0,1,2,4,5,7,8,9,10,11,12,14,15,25,27,28,29,30,37,46,47,48,49,60] rfl rfl ?_
    repeat (first | refine Run.seq ?_ | refine Run.skip ?_)
    first | refine Run.condT rfl rfl ?_ | refine Run.condF rfl rfl ?_ | refine Run.condT rfl (by assumption) ?_ | refine Run.condF rfl (by assumption) ?_
    repeat (first | refine Run.seq ?_ | refine Run.skip ?_ | refine Run.block ?_)
    refine Run.region ?_
    refine O.move rfl rfl ?_
    refine O.load hE T73 rfl rfl rfl rfl ?_
    refine O.indexA hE T91 rfl T73 rfl rfl (by omega) (by omega) rfl rfl rfl ?_
    refine O.store hE T73 rfl rfl rfl rfl rfl rfl ?_
    refine O.nil ?_
    try refine Run.keep [0,1,2,4,5,7,8,9,10,11,12,14,15,25,27,28,29,30,37,46,47,48,49,60] rfl rfl ?_
    repeat (first | refine Run.seq ?_ | refine Run.skip ?_ | refine Run.block ?_)
    refine Run.region ?_
    first | refine O.ar rfl rfl rfl (by exact wrap_i64 (by omega) (by omega)) rfl ?_ | refine O.ar rfl rfl rfl rfl rfl ?_
    refine O.move rfl rfl ?_
    refine O.nil ?_
    try refine Run.keep [0,1,2,4,5,7,8,9,10,11,12,14,15,25,27,28,29,30,37,46,47,48,49,60] rfl rfl ?_
    exact ih 1 _ (SLe.drop (by repeat (first | exact TmIn.nil | refine TmIn.cons rfl ?_)) (by repeat (first | exact BxIn.nil | refine BxIn.cons rfl ?_)) rfl rfl) (by omega) (by omega)
  ·
    repeat (first | refine Run.seq ?_ | refine Run.skip ?_ | refine Run.block ?_)
    refine Run.region ?_
    first | refine O.cmp rfl rfl rfl (by first | exact dT (by omega) | exact dF (by omega)) rfl ?_ | refine O.cmp rfl rfl rfl rfl rfl ?_
    refine O.nil ?_
    try refine Run.keep [0,1,2,4,5,7,8,9,10,11,12,14,15,25,27,28,29,30,37,46,47,48,49,60] rfl rfl ?_
    repeat (first | refine Run.seq ?_ | refine Run.skip ?_)
    first | refine Run.condT rfl rfl ?_ | refine Run.condF rfl rfl ?_ | refine Run.condT rfl (by assumption) ?_ | refine Run.condF rfl (by assumption) ?_
    refine Run.exit ?_
    repeat (first | refine thenR_exit ?_ | refine roundR_exit ?_ | refine blockR_exit ?_ | refine blockR_pass rfl ?_)
    repeat (first | refine Run.seq ?_ | refine Run.skip ?_ | refine Run.block ?_)
    refine Run.region ?_
    refine O.field hE L28 rfl rfl rfl rfl ?_
    first | refine O.loadS hE T3 rfl rfl rfl (by rfl) rfl ?_ | refine O.loadE hE T3 rfl rfl (by rfl) rfl ?_ | refine O.load hE T3 rfl rfl rfl rfl ?_
    refine O.field hE L28 rfl rfl rfl rfl ?_
    first | refine O.loadS hE T26 rfl rfl rfl (by rfl) rfl ?_ | refine O.loadE hE T26 rfl rfl (by rfl) rfl ?_ | refine O.load hE T26 rfl rfl rfl rfl ?_
    first | refine O.lenN hE T26 rfl rfl rfl (by first | exact newest_pv | exact newest_gl rfl rfl | trivial) lenC rfl ?_ | refine O.lenLst hE T26 rfl rfl rfl (by first | exact newest_pv | exact newest_gl rfl rfl | trivial) rfl ?_
    refine O.load hE T91 rfl rfl rfl rfl ?_
    refine O.callE hj rfl (by first | rfl | simp [closed, men3, mens2_app, mens2_ints, mens2, men2, men1, mens1_app, mens1_ints, mens1]) (by first | rfl | simp [d2, ds1_ints, ds1_app, ds1, d1, ds0_app, ds0_ints, ds0, d0]) rfl ?_
    refine O.extract rfl rfl rfl ?_
    refine O.extract rfl rfl rfl ?_
    refine O.store hE T73 rfl rfl rfl rfl rfl rfl ?_
    refine O.assign rfl rfl ?_
    refine O.nil ?_
    try refine Run.keep [0,1,2,4,5,7,8,9,10,11,12,14,15,25,27,28,29,30,37,46,47,48,49,60] rfl rfl ?_
    (repeat (first | refine Run.seq ?_ | refine Run.skip ?_)); (try refine Run.ret ?_); first | exact Ends.flat hE (.inr rfl) rfl rfl (AVle.of_eq rfl) rfl | exact Ends.flat hE (.inl rfl) rfl rfl (AVle.of_eq rfl) rfl
def cel2 (s t : Srt) : Nat → List AV
  | 0 => [.pv (.int .i64 0), .pv (.bool false), .pv (.int .i64 0), .pv (.bool false)]
  | 1 => [.pv (.int .i64 s.kd), .pv (.bool s.nl), .pv (.int .i64 0), .pv (.bool false)]
  | _ + 2 => [.pv (.int .i64 s.kd), .pv (.bool s.nl), .pv (.int .i64 t.kd), .pv (.bool t.nl)]
theorem fnOf2 {cs : List Kol} {op : Int} {a b : Xp} {s t r : Srt} (hop : op ≠ 1 ∧ op ≠ 2) (ha : FnC (En Tryd.prog g) 35 [xA a, .pv (.lst 3 (cs.map kolE))] (.tup [srtA s, .pv (.int .i64 0)]) []) (hb : FnC (En Tryd.prog g) 35 [xA b, .pv (.lst 3 (cs.map kolE))] (.tup [srtA t, .pv (.int .i64 0)]) []) 
    (hj : FnC (En Tryd.prog g) 47 [.pv (.int .i64 op), .pv (.int .i64 2), .agg [.pv (.int .i64 s.kd), .pv (.bool s.nl), .pv (.int .i64 t.kd), .pv (.bool t.nl)]] (.tup [srtA r, .pv (.int .i64 0)]) []) :
    FnC (En Tryd.prog g) 35 [xA (.bi op a b), .pv (.lst 3 (cs.map kolE))] (.tup [srtA r, .pv (.int .i64 0)]) [] := by
  have hE := EnOk g
  obtain ⟨o1, o2⟩ := hop
  obtain ⟨rk, rn⟩ := r
  obtain ⟨sk, sn⟩ := s
  obtain ⟨tk, tn⟩ := t
  dsimp only [xA, Xp.op, Xp.v, Xp.nm, Xp.as] at ha hb hj ⊢
  refine FnC.of Tryd.func35 rfl rfl rfl rfl ?_
  repeat (first | refine Run.seq ?_ | refine Run.skip ?_ | refine Run.block ?_)
  refine Run.region ?_
  refine O.box 2 rfl (by first | rfl | exact cells_ones (by simp [ones_app, ones_ints, ones, AV.one, PV.one])) rfl rfl ?_
  refine O.alloc hE 4 T73 rfl rfl rfl ?_
  refine O.assign rfl rfl ?_
  refine O.nil ?_
  try refine Run.keep [0,1,2,4,5,7,8,9,10,11,12,14,15,25,27,28,29,30,37,46,47,48,49,60] rfl rfl ?_
  repeat (first | refine Run.seq ?_ | refine Run.skip ?_ | refine Run.block ?_)
  refine Run.region ?_
  refine O.field hE L28 rfl rfl rfl rfl ?_
  first | refine O.loadS hE T3 rfl rfl rfl (by rfl) rfl ?_ | refine O.loadE hE T3 rfl rfl (by rfl) rfl ?_ | refine O.load hE T3 rfl rfl rfl rfl ?_
  refine O.nil ?_
  try refine Run.keep [0,1,2,4,5,7,8,9,10,11,12,14,15,25,27,28,29,30,37,46,47,48,49,60] rfl rfl ?_
  repeat (first | refine Run.seq ?_ | refine Run.skip ?_ | refine Run.block ?_)
  refine Run.region ?_
  first | refine O.cmp rfl rfl rfl (by first | exact dT (by omega) | exact dF (by omega)) rfl ?_ | refine O.cmp rfl rfl rfl rfl rfl ?_
  refine O.assign rfl rfl ?_
  refine O.nil ?_
  try refine Run.keep [0,1,2,4,5,7,8,9,10,11,12,14,15,25,27,28,29,30,37,46,47,48,49,60] rfl rfl ?_
  repeat (first | refine Run.seq ?_ | refine Run.skip ?_)
  first | refine Run.condT rfl rfl ?_ | refine Run.condF rfl rfl ?_ | refine Run.condT rfl (by assumption) ?_ | refine Run.condF rfl (by assumption) ?_
  repeat (first | refine Run.seq ?_ | refine Run.skip ?_ | refine Run.block ?_)
  refine Run.region ?_
  first | refine O.cmp rfl rfl rfl (by first | exact dT (by omega) | exact dF (by omega)) rfl ?_ | refine O.cmp rfl rfl rfl rfl rfl ?_
  refine O.assign rfl rfl ?_
  refine O.nil ?_
  try refine Run.keep [0,1,2,4,5,7,8,9,10,11,12,14,15,25,27,28,29,30,37,46,47,48,49,60] rfl rfl ?_
  repeat (first | refine Run.seq ?_ | refine Run.skip ?_)
  first | refine Run.condT rfl rfl ?_ | refine Run.condF rfl rfl ?_ | refine Run.condT rfl (by assumption) ?_ | refine Run.condF rfl (by assumption) ?_
  repeat (first | refine Run.seq ?_ | refine Run.skip ?_ | refine Run.block ?_)
  refine Run.region ?_
  first | refine O.allocS hE 8 T91 ints_zero rfl rfl ?_ | refine O.alloc hE 8 T91 rfl rfl rfl ?_
  refine O.nil ?_
  try refine Run.keep [0,1,2,4,5,7,8,9,10,11,12,14,15,25,27,28,29,30,37,46,47,48,49,60] rfl rfl ?_
  repeat (first | refine Run.seq ?_ | refine Run.skip ?_ | refine Run.block ?_)
  refine Run.region ?_
  refine O.field hE L28 rfl rfl rfl rfl ?_
  first | refine O.loadS hE T26 rfl rfl rfl (by rfl) rfl ?_ | refine O.loadE hE T26 rfl rfl (by rfl) rfl ?_ | refine O.load hE T26 rfl rfl rfl rfl ?_
  first | refine O.lenN hE T26 rfl rfl rfl (by first | exact newest_pv | exact newest_gl rfl rfl | trivial) lenC rfl ?_ | refine O.lenLst hE T26 rfl rfl rfl (by first | exact newest_pv | exact newest_gl rfl rfl | trivial) rfl ?_
  refine O.move rfl rfl ?_
  refine O.nil ?_
  try refine Run.keep [0,1,2,4,5,7,8,9,10,11,12,14,15,25,27,28,29,30,37,46,47,48,49,60] rfl rfl ?_
  repeat (first | refine Run.seq ?_ | refine Run.skip ?_)
  refine Run.block ?_
  refine Run.loopInv (ι := Nat) (fun j => j ≤ 2)
    (fun j => ⟨76, [(1, .pv (.lst 3 (cs.map kolE))), (2, .ptr 2 0), (4, .ptr 4 0), (5, .pv (.int .i64 0)), (8, .ptr 8 0), (46, .pv (.lst 7 [xE a, xE b])), (47, .pv (.int .i64 2)), (48, .pv (.int .i64 j))], [(8, .var (cel2 ⟨sk, sn⟩ ⟨tk, tn⟩ j)), (4, .var [.pv (.int .i64 0), .pv (.bool false)]), (2, .var [.pv (.int .i64 op), .pv (.int .i64 0), .pv (.int .i64 0), .pv (.int .u64 0), .pv (.str noS), .pv (.str noS), .pv (.lst 7 [xE a, xE b])])]⟩) (fun j => 2 - j) 0 (by omega) ?_ ?_
  ·
    exact SLe.drop (by repeat (first | exact TmIn.nil | refine TmIn.cons rfl ?_)) (by repeat (first | exact BxIn.nil | refine BxIn.cons rfl ?_)) rfl rfl
  rintro j hj0 ih
  have hjc : j = 0 ∨ j = 1 ∨ j = 2 := by omega
  rcases hjc with rfl | rfl | rfl
  ·
    have hat : ([xE a, xE b] : List PV)[((0 : Nat) : Int).toNat]? = some (xE a) := rfl
    repeat (first | refine Run.seq ?_ | refine Run.skip ?_ | refine Run.block ?_)
    refine Run.region ?_
    first | refine O.cmp rfl rfl rfl (by first | exact dT (by omega) | exact dF (by omega)) rfl ?_ | refine O.cmp rfl rfl rfl rfl rfl ?_
    refine O.nil ?_
    try refine Run.keep [0,1,2,4,5,7,8,9,10,11,12,14,15,25,27,28,29,30,37,46,47,48,49,60] rfl rfl ?_
    repeat (first | refine Run.seq ?_ | refine Run.skip ?_)
    first | refine Run.condT rfl rfl ?_ | refine Run.condF rfl rfl ?_ | refine Run.condT rfl (by assumption) ?_ | refine Run.condF rfl (by assumption) ?_
    repeat (first | refine Run.seq ?_ | refine Run.skip ?_ | refine Run.block ?_)
    refine Run.region ?_
    refine O.move rfl rfl ?_
    refine O.index hE T26 rfl T28 rfl rfl (by first | exact newest_pv | exact newest_gl rfl rfl | trivial) rfl (by omega) (by first | assumption | rfl) rfl rfl rfl ?_
    refine O.load hE T28 rfl rfl rfl rfl ?_
    refine O.alloc hE 10 T28 rfl rfl rfl ?_
    refine O.assign rfl rfl ?_
    refine O.store hE T28 rfl rfl rfl rfl rfl rfl ?_
    refine O.nil ?_
    try refine Run.keep [0,1,2,4,5,7,8,9,10,11,12,14,15,25,27,28,29,30,37,46,47,48,49,60] rfl rfl ?_
    repeat (first | refine Run.seq ?_ | refine Run.skip ?_ | refine Run.block ?_)
    refine Run.region ?_
    refine O.load hE T28 rfl rfl rfl rfl ?_
    refine O.move rfl rfl ?_
    refine O.callE ha rfl (by first | rfl | simp [closed, men3, mens2_app, mens2_ints, mens2, men2, men1, mens1_app, mens1_ints, mens1]) (by first | rfl | simp [d2, ds1_ints, ds1_app, ds1, d1, ds0_app, ds0_ints, ds0, d0]) rfl ?_
    refine O.move rfl rfl ?_
    refine O.extract rfl rfl rfl ?_
    refine O.extract rfl rfl rfl ?_
    refine O.alloc hE 11 T73 rfl rfl rfl ?_
    refine O.store hE T73 rfl rfl rfl rfl rfl rfl ?_
    refine O.assign rfl rfl ?_
    refine O.nil ?_
    try refine Run.keep [0,1,2,4,5,7,8,9,10,11,12,14,15,25,27,28,29,30,37,46,47,48,49,60] rfl rfl ?_
    repeat (first | refine Run.seq ?_ | refine Run.skip ?_ | refine Run.block ?_)
    refine Run.region ?_
    refine O.move rfl rfl ?_
    first | refine O.cmp rfl rfl rfl (by first | exact dT (by omega) | exact dF (by omega)) rfl ?_ | refine O.cmp rfl rfl rfl rfl rfl ?_
    refine O.nil ?_
    try refine Run.keep [0,1,2,4,5,7,8,9,10,11,12,14,15,25,27,28,29,30,37,46,47,48,49,60] rfl rfl ?_
    repeat (first | refine Run.seq ?_ | refine Run.skip ?_)
    first | refine Run.condT rfl rfl ?_ | refine Run.condF rfl rfl ?_ | refine Run.condT rfl (by assumption) ?_ | refine Run.condF rfl (by assumption) ?_
    repeat (first | refine Run.seq ?_ | refine Run.skip ?_ | refine Run.block ?_)
    refine Run.region ?_
    refine O.move rfl rfl ?_
    refine O.load hE T73 rfl rfl rfl rfl ?_
    refine O.indexA hE T91 rfl T73 rfl rfl (by omega) (by omega) rfl rfl rfl ?_
    refine O.store hE T73 rfl rfl rfl rfl rfl rfl ?_
    refine O.nil ?_
    try refine Run.keep [0,1,2,4,5,7,8,9,10,11,12,14,15,25,27,28,29,30,37,46,47,48,49,60] rfl rfl ?_
    repeat (first | refine Run.seq ?_ | refine Run.skip ?_ | refine Run.block ?_)
    refine Run.region ?_
    first | refine O.ar rfl rfl rfl (by exact wrap_i64 (by omega) (by omega)) rfl ?_ | refine O.ar rfl rfl rfl rfl rfl ?_
    refine O.move rfl rfl ?_
    refine O.nil ?_
    try refine Run.keep [0,1,2,4,5,7,8,9,10,11,12,14,15,25,27,28,29,30,37,46,47,48,49,60] rfl rfl ?_
    exact ih 1 _ (SLe.drop (by repeat (first | exact TmIn.nil | refine TmIn.cons rfl ?_)) (by repeat (first | exact BxIn.nil | refine BxIn.cons rfl ?_)) rfl rfl) (by omega) (by omega)
  ·
    have hat : ([xE a, xE b] : List PV)[((1 : Nat) : Int).toNat]? = some (xE b) := rfl
    repeat (first | refine Run.seq ?_ | refine Run.skip ?_ | refine Run.block ?_)
    refine Run.region ?_
    first | refine O.cmp rfl rfl rfl (by first | exact dT (by omega) | exact dF (by omega)) rfl ?_ | refine O.cmp rfl rfl rfl rfl rfl ?_
    refine O.nil ?_
    try refine Run.keep [0,1,2,4,5,7,8,9,10,11,12,14,15,25,27,28,29,30,37,46,47,48,49,60] rfl rfl ?_
    repeat (first | refine Run.seq ?_ | refine Run.skip ?_)
    first | refine Run.condT rfl rfl ?_ | refine Run.condF rfl rfl ?_ | refine Run.condT rfl (by assumption) ?_ | refine Run.condF rfl (by assumption) ?_
    repeat (first | refine Run.seq ?_ | refine Run.skip ?_ | refine Run.block ?_)
    refine Run.region ?_
    refine O.move rfl rfl ?_
    refine O.index hE T26 rfl T28 rfl rfl (by first | exact newest_pv | exact newest_gl rfl rfl | trivial) rfl (by omega) (by first | assumption | rfl) rfl rfl rfl ?_
    refine O.load hE T28 rfl rfl rfl rfl ?_
    refine O.alloc hE 10 T28 rfl rfl rfl ?_
    refine O.assign rfl rfl ?_
    refine O.store hE T28 rfl rfl rfl rfl rfl rfl ?_
    refine O.nil ?_
    try refine Run.keep [0,1,2,4,5,7,8,9,10,11,12,14,15,25,27,28,29,30,37,46,47,48,49,60] rfl rfl ?_
    repeat (first | refine Run.seq ?_ | refine Run.skip ?_ | refine Run.block ?_)
    refine Run.region ?_
    refine O.load hE T28 rfl rfl rfl rfl ?_
    refine O.move rfl rfl ?_
    refine O.callE hb rfl (by first | rfl | simp [closed, men3, mens2_app, mens2_ints, mens2, men2, men1, mens1_app, mens1_ints, mens1]) (by first | rfl | simp [d2, ds1_ints, ds1_app, ds1, d1, ds0_app, ds0_ints, ds0, d0]) rfl ?_
    refine O.move rfl rfl ?_
    refine O.extract rfl rfl rfl ?_
    refine O.extract rfl rfl rfl ?_
    refine O.alloc hE 11 T73 rfl rfl rfl ?_
    refine O.store hE T73 rfl rfl rfl rfl rfl rfl ?_
    refine O.assign rfl rfl ?_
    refine O.nil ?_
    try refine Run.keep [0,1,2,4,5,7,8,9,10,11,12,14,15,25,27,28,29,30,37,46,47,48,49,60] rfl rfl ?_
    repeat (first | refine Run.seq ?_ | refine Run.skip ?_ | refine Run.block ?_)
    refine Run.region ?_
    refine O.move rfl rfl ?_
    first | refine O.cmp rfl rfl rfl (by first | exact dT (by omega) | exact dF (by omega)) rfl ?_ | refine O.cmp rfl rfl rfl rfl rfl ?_
    refine O.nil ?_
    try refine Run.keep [0,1,2,4,5,7,8,9,10,11,12,14,15,25,27,28,29,30,37,46,47,48,49,60] rfl rfl ?_
    repeat (first | refine Run.seq ?_ | refine Run.skip ?_)
    first | refine Run.condT rfl rfl ?_ | refine Run.condF rfl rfl ?_ | refine Run.condT rfl (by assumption) ?_ | refine Run.condF rfl (by assumption) ?_
    repeat (first | refine Run.seq ?_ | refine Run.skip ?_ | refine Run.block ?_)
    refine Run.region ?_
    refine O.move rfl rfl ?_
    refine O.load hE T73 rfl rfl rfl rfl ?_
    refine O.indexA hE T91 rfl T73 rfl rfl (by omega) (by omega) rfl rfl rfl ?_
    refine O.store hE T73 rfl rfl rfl rfl rfl rfl ?_
    refine O.nil ?_
    try refine Run.keep [0,1,2,4,5,7,8,9,10,11,12,14,15,25,27,28,29,30,37,46,47,48,49,60] rfl rfl ?_
    repeat (first | refine Run.seq ?_ | refine Run.skip ?_ | refine Run.block ?_)
    refine Run.region ?_
    first | refine O.ar rfl rfl rfl (by exact wrap_i64 (by omega) (by omega)) rfl ?_ | refine O.ar rfl rfl rfl rfl rfl ?_
    refine O.move rfl rfl ?_
    refine O.nil ?_
    try refine Run.keep [0,1,2,4,5,7,8,9,10,11,12,14,15,25,27,28,29,30,37,46,47,48,49,60] rfl rfl ?_
    exact ih 2 _ (SLe.drop (by repeat (first | exact TmIn.nil | refine TmIn.cons rfl ?_)) (by repeat (first | exact BxIn.nil | refine BxIn.cons rfl ?_)) rfl rfl) (by omega) (by omega)
  ·
    repeat (first | refine Run.seq ?_ | refine Run.skip ?_ | refine Run.block ?_)
    refine Run.region ?_
    first | refine O.cmp rfl rfl rfl (by first | exact dT (by omega) | exact dF (by omega)) rfl ?_ | refine O.cmp rfl rfl rfl rfl rfl ?_
    refine O.nil ?_
    try refine Run.keep [0,1,2,4,5,7,8,9,10,11,12,14,15,25,27,28,29,30,37,46,47,48,49,60] rfl rfl ?_
    repeat (first | refine Run.seq ?_ | refine Run.skip ?_)
    first | refine Run.condT rfl rfl ?_ | refine Run.condF rfl rfl ?_ | refine Run.condT rfl (by assumption) ?_ | refine Run.condF rfl (by assumption) ?_
    refine Run.exit ?_
    repeat (first | refine thenR_exit ?_ | refine roundR_exit ?_ | refine blockR_exit ?_ | refine blockR_pass rfl ?_)
    repeat (first | refine Run.seq ?_ | refine Run.skip ?_ | refine Run.block ?_)
    refine Run.region ?_
    refine O.field hE L28 rfl rfl rfl rfl ?_
    first | refine O.loadS hE T3 rfl rfl rfl (by rfl) rfl ?_ | refine O.loadE hE T3 rfl rfl (by rfl) rfl ?_ | refine O.load hE T3 rfl rfl rfl rfl ?_
    refine O.field hE L28 rfl rfl rfl rfl ?_
    first | refine O.loadS hE T26 rfl rfl rfl (by rfl) rfl ?_ | refine O.loadE hE T26 rfl rfl (by rfl) rfl ?_ | refine O.load hE T26 rfl rfl rfl rfl ?_
    first | refine O.lenN hE T26 rfl rfl rfl (by first | exact newest_pv | exact newest_gl rfl rfl | trivial) lenC rfl ?_ | refine O.lenLst hE T26 rfl rfl rfl (by first | exact newest_pv | exact newest_gl rfl rfl | trivial) rfl ?_
    refine O.load hE T91 rfl rfl rfl rfl ?_
    refine O.callE hj rfl (by first | rfl | simp [closed, men3, mens2_app, mens2_ints, mens2, men2, men1, mens1_app, mens1_ints, mens1]) (by first | rfl | simp [d2, ds1_ints, ds1_app, ds1, d1, ds0_app, ds0_ints, ds0, d0]) rfl ?_
    refine O.extract rfl rfl rfl ?_
    refine O.extract rfl rfl rfl ?_
    refine O.store hE T73 rfl rfl rfl rfl rfl rfl ?_
    refine O.assign rfl rfl ?_
    refine O.nil ?_
    try refine Run.keep [0,1,2,4,5,7,8,9,10,11,12,14,15,25,27,28,29,30,37,46,47,48,49,60] rfl rfl ?_
    (repeat (first | refine Run.seq ?_ | refine Run.skip ?_)); (try refine Run.ret ?_); first | exact Ends.flat hE (.inr rfl) rfl rfl (AVle.of_eq rfl) rfl | exact Ends.flat hE (.inl rfl) rfl rfl (AVle.of_eq rfl) rfl
theorem fnOfLit {cs : List Kol} (v : Vl) : FnC (En Tryd.prog g) 35 [xA (.lit v), .pv (.lst 3 (cs.map kolE))] (.tup [srtA ⟨v.kd, decide (v.kd = 0)⟩, .pv (.int .i64 0)]) [] := by
  have hE := EnOk g
  obtain ⟨vk, vn, vb, vs⟩ := v
  dsimp only [xA, Xp.op, Xp.v, Xp.nm, Xp.as]
  refine FnC.of Tryd.func35 rfl rfl rfl rfl ?_
  repeat (first | refine Run.seq ?_ | refine Run.skip ?_ | refine Run.block ?_)
  refine Run.region ?_
  refine O.box 2 rfl (by first | rfl | exact cells_ones (by simp [ones_app, ones_ints, ones, AV.one, PV.one])) rfl rfl ?_
  refine O.alloc hE 4 T73 rfl rfl rfl ?_
  refine O.assign rfl rfl ?_
  refine O.nil ?_
  try refine Run.keep [0,1,2,4,5,7,8,9,10,11,12,14,15,25,27,28,29,30,37,46,47,48,49,60] rfl rfl ?_
  repeat (first | refine Run.seq ?_ | refine Run.skip ?_ | refine Run.block ?_)
  refine Run.region ?_
  refine O.field hE L28 rfl rfl rfl rfl ?_
  first | refine O.loadS hE T3 rfl rfl rfl (by rfl) rfl ?_ | refine O.loadE hE T3 rfl rfl (by rfl) rfl ?_ | refine O.load hE T3 rfl rfl rfl rfl ?_
  refine O.nil ?_
  try refine Run.keep [0,1,2,4,5,7,8,9,10,11,12,14,15,25,27,28,29,30,37,46,47,48,49,60] rfl rfl ?_
  repeat (first | refine Run.seq ?_ | refine Run.skip ?_ | refine Run.block ?_)
  refine Run.region ?_
  first | refine O.cmp rfl rfl rfl (by first | exact dT (by omega) | exact dF (by omega)) rfl ?_ | refine O.cmp rfl rfl rfl rfl rfl ?_
  refine O.assign rfl rfl ?_
  refine O.nil ?_
  try refine Run.keep [0,1,2,4,5,7,8,9,10,11,12,14,15,25,27,28,29,30,37,46,47,48,49,60] rfl rfl ?_
  repeat (first | refine Run.seq ?_ | refine Run.skip ?_)
  first | refine Run.condT rfl rfl ?_ | refine Run.condF rfl rfl ?_ | refine Run.condT rfl (by assumption) ?_ | refine Run.condF rfl (by assumption) ?_
  repeat (first | refine Run.seq ?_ | refine Run.skip ?_ | refine Run.block ?_)
  refine Run.region ?_
  refine O.field hE L28 rfl rfl rfl rfl ?_
  refine O.field hE L25 rfl rfl rfl rfl ?_
  first | refine O.loadS hE T3 rfl rfl rfl (by rfl) rfl ?_ | refine O.loadE hE T3 rfl rfl (by rfl) rfl ?_ | refine O.load hE T3 rfl rfl rfl rfl ?_
  refine O.field hE L28 rfl rfl rfl rfl ?_
  refine O.field hE L25 rfl rfl rfl rfl ?_
  first | refine O.loadS hE T3 rfl rfl rfl (by rfl) rfl ?_ | refine O.loadE hE T3 rfl rfl (by rfl) rfl ?_ | refine O.load hE T3 rfl rfl rfl rfl ?_
  refine O.cmp rfl rfl rfl rfl rfl ?_
  refine O.build hE T73 L73 rfl rfl rfl ?_
  refine O.store hE T73 rfl rfl rfl rfl rfl rfl ?_
  refine O.assign rfl rfl ?_
  refine O.nil ?_
  try refine Run.keep [0,1,2,4,5,7,8,9,10,11,12,14,15,25,27,28,29,30,37,46,47,48,49,60] rfl rfl ?_
  (repeat (first | refine Run.seq ?_ | refine Run.skip ?_)); (try refine Run.ret ?_); first | exact Ends.flat hE (.inr rfl) rfl rfl (AVle.of_eq rfl) rfl | exact Ends.flat hE (.inl rfl) rfl rfl (AVle.of_eq rfl) rfl
theorem fnOfCol {cs : List Kol} (hl : cs.length ≤ 5) {s : ByteArray} {c : Kol} (hf : findC cs s = some c) : FnC (En Tryd.prog g) 35 [xA (.col s), .pv (.lst 3 (cs.map kolE))] (.tup [srtA ⟨c.kd, c.nl⟩, .pv (.int .i64 0)]) [] := by
  have hE := EnOk g
  have hlm : (cs.map kolE).length = cs.length := by simp
  obtain ⟨ck, ckd, cnl⟩ := c
  dsimp only [xA, Xp.op, Xp.v, Xp.nm, Xp.as]
  refine FnC.of Tryd.func35 rfl rfl rfl rfl ?_
  repeat (first | refine Run.seq ?_ | refine Run.skip ?_ | refine Run.block ?_)
  refine Run.region ?_
  refine O.box 2 rfl (by first | rfl | exact cells_ones (by simp [ones_app, ones_ints, ones, AV.one, PV.one])) rfl rfl ?_
  refine O.alloc hE 4 T73 rfl rfl rfl ?_
  refine O.assign rfl rfl ?_
  refine O.nil ?_
  try refine Run.keep [0,1,2,4,5,7,8,9,10,11,12,14,15,25,27,28,29,30,37,46,47,48,49,60] rfl rfl ?_
  repeat (first | refine Run.seq ?_ | refine Run.skip ?_ | refine Run.block ?_)
  refine Run.region ?_
  refine O.field hE L28 rfl rfl rfl rfl ?_
  first | refine O.loadS hE T3 rfl rfl rfl (by rfl) rfl ?_ | refine O.loadE hE T3 rfl rfl (by rfl) rfl ?_ | refine O.load hE T3 rfl rfl rfl rfl ?_
  refine O.nil ?_
  try refine Run.keep [0,1,2,4,5,7,8,9,10,11,12,14,15,25,27,28,29,30,37,46,47,48,49,60] rfl rfl ?_
  repeat (first | refine Run.seq ?_ | refine Run.skip ?_ | refine Run.block ?_)
  refine Run.region ?_
  first | refine O.cmp rfl rfl rfl (by first | exact dT (by omega) | exact dF (by omega)) rfl ?_ | refine O.cmp rfl rfl rfl rfl rfl ?_
  refine O.assign rfl rfl ?_
  refine O.nil ?_
  try refine Run.keep [0,1,2,4,5,7,8,9,10,11,12,14,15,25,27,28,29,30,37,46,47,48,49,60] rfl rfl ?_
  repeat (first | refine Run.seq ?_ | refine Run.skip ?_)
  first | refine Run.condT rfl rfl ?_ | refine Run.condF rfl rfl ?_ | refine Run.condT rfl (by assumption) ?_ | refine Run.condF rfl (by assumption) ?_
  repeat (first | refine Run.seq ?_ | refine Run.skip ?_ | refine Run.block ?_)
  refine Run.region ?_
  first | refine O.cmp rfl rfl rfl (by first | exact dT (by omega) | exact dF (by omega)) rfl ?_ | refine O.cmp rfl rfl rfl rfl rfl ?_
  refine O.assign rfl rfl ?_
  refine O.nil ?_
  try refine Run.keep [0,1,2,4,5,7,8,9,10,11,12,14,15,25,27,28,29,30,37,46,47,48,49,60] rfl rfl ?_
  repeat (first | refine Run.seq ?_ | refine Run.skip ?_)
  first | refine Run.condT rfl rfl ?_ | refine Run.condF rfl rfl ?_ | refine Run.condT rfl (by assumption) ?_ | refine Run.condF rfl (by assumption) ?_
  repeat (first | refine Run.seq ?_ | refine Run.skip ?_ | refine Run.block ?_)
  refine Run.region ?_
  refine O.move rfl rfl ?_
  first | refine O.lenN hE T29 rfl rfl rfl (by first | exact newest_pv | exact newest_gl rfl rfl | trivial) lenC rfl ?_ | refine O.lenLst hE T29 rfl rfl rfl (by first | exact newest_pv | exact newest_gl rfl rfl | trivial) rfl ?_
  refine O.move rfl rfl ?_
  refine O.nil ?_
  try refine Run.keep [0,1,2,4,5,7,8,9,10,11,12,14,15,25,27,28,29,30,37,46,47,48,49,60] rfl rfl ?_
  repeat (first | refine Run.seq ?_ | refine Run.skip ?_)
  refine Run.block ?_
  refine Run.loopInv (ι := Nat) (fun j => j ≤ cs.length ∧ findC (cs.drop j) s = some ⟨ck, ckd, cnl⟩)
    (fun j => ⟨76, [(2, .ptr 2 0), (4, .ptr 4 0), (27, .pv (.lst 3 (cs.map kolE))), (28, .pv (.int .i64 cs.length)), (29, .pv (.int .i64 j))], [(4, .var [.pv (.int .i64 0), .pv (.bool false)]), (2, .var [.pv (.int .i64 2), .pv (.int .i64 0), .pv (.int .i64 0), .pv (.int .u64 0), .pv (.str noS), .pv (.str s), .pv (.lst 7 [])])]⟩) (fun j => cs.length - j) 0 ⟨by omega, by simpa using hf⟩ ?_ ?_
  ·
    exact SLe.drop (by repeat (first | exact TmIn.nil | refine TmIn.cons rfl ?_)) (by repeat (first | exact BxIn.nil | refine BxIn.cons rfl ?_)) rfl rfl
  rintro j ⟨hj, hfj⟩ ih
  have hlt : j < cs.length := by
    rcases Nat.lt_or_ge j cs.length with h | h
    · exact h
    · rw [List.drop_eq_nil_of_le h] at hfj; simp [findC] at hfj
  obtain ⟨d, hd⟩ : ∃ d, cs[j]? = some d := ⟨_, List.getElem?_eq_getElem hlt⟩
  have hat := kol_at hd
  have hdr : cs.drop j = d :: cs.drop (j + 1) := by
    rw [List.drop_eq_getElem_cons hlt]
    congr 1
    have := List.getElem?_eq_getElem hlt
    rw [hd] at this
    exact (Option.some.inj this).symm
  rw [hdr] at hfj
  obtain ⟨dk, dkd, dnl⟩ := d
  dsimp only [kolE] at hat
  by_cases hq : (dk.toList == s.toList) = true
  ·
    have he : (⟨dk, dkd, dnl⟩ : Kol) = ⟨ck, ckd, cnl⟩ := by
      unfold findC at hfj
      rw [List.find?_cons_of_pos (by simpa using hq)] at hfj
      exact Option.some.inj hfj
    cases he
    repeat (first | refine Run.seq ?_ | refine Run.skip ?_ | refine Run.block ?_)
    refine Run.region ?_
    first | refine O.cmp rfl rfl rfl (by first | exact dT (by omega) | exact dF (by omega)) rfl ?_ | refine O.cmp rfl rfl rfl rfl rfl ?_
    refine O.nil ?_
    try refine Run.keep [0,1,2,4,5,7,8,9,10,11,12,14,15,25,27,28,29,30,37,46,47,48,49,60] rfl rfl ?_
    repeat (first | refine Run.seq ?_ | refine Run.skip ?_)
    first | refine Run.condT rfl rfl ?_ | refine Run.condF rfl rfl ?_ | refine Run.condT rfl (by assumption) ?_ | refine Run.condF rfl (by assumption) ?_
    repeat (first | refine Run.seq ?_ | refine Run.skip ?_ | refine Run.block ?_)
    refine Run.region ?_
    refine O.index hE T29 rfl T37 rfl rfl (by first | exact newest_pv | exact newest_gl rfl rfl | trivial) rfl (by omega) (by first | assumption | rfl) rfl rfl rfl ?_
    refine O.load hE T37 rfl rfl rfl rfl ?_
    refine O.alloc hE 7 T37 rfl rfl rfl ?_
    refine O.store hE T37 rfl rfl rfl rfl rfl rfl ?_
    refine O.nil ?_
    try refine Run.keep [0,1,2,4,5,7,8,9,10,11,12,14,15,25,27,28,29,30,37,46,47,48,49,60] rfl rfl ?_
    repeat (first | refine Run.seq ?_ | refine Run.skip ?_ | refine Run.block ?_)
    refine Run.region ?_
    refine O.field hE L37 rfl rfl rfl rfl ?_
    first | refine O.loadS hE T9 rfl rfl rfl (by rfl) rfl ?_ | refine O.loadE hE T9 rfl rfl (by rfl) rfl ?_ | refine O.load hE T9 rfl rfl rfl rfl ?_
    refine O.field hE L28 rfl rfl rfl rfl ?_
    first | refine O.loadS hE T9 rfl rfl rfl (by rfl) rfl ?_ | refine O.loadE hE T9 rfl rfl (by rfl) rfl ?_ | refine O.load hE T9 rfl rfl rfl rfl ?_
    refine O.strEqK rfl rfl hq rfl ?_
    refine O.nil ?_
    try refine Run.keep [0,1,2,4,5,7,8,9,10,11,12,14,15,25,27,28,29,30,37,46,47,48,49,60] rfl rfl ?_
    repeat (first | refine Run.seq ?_ | refine Run.skip ?_)
    first | refine Run.condT rfl rfl ?_ | refine Run.condF rfl rfl ?_ | refine Run.condT rfl (by assumption) ?_ | refine Run.condF rfl (by assumption) ?_
    repeat (first | refine Run.seq ?_ | refine Run.skip ?_ | refine Run.block ?_)
    refine Run.region ?_
    refine O.field hE L37 rfl rfl rfl rfl ?_
    first | refine O.loadS hE T3 rfl rfl rfl (by rfl) rfl ?_ | refine O.loadE hE T3 rfl rfl (by rfl) rfl ?_ | refine O.load hE T3 rfl rfl rfl rfl ?_
    refine O.field hE L37 rfl rfl rfl rfl ?_
    first | refine O.loadS hE T4 rfl rfl rfl (by rfl) rfl ?_ | refine O.loadE hE T4 rfl rfl (by rfl) rfl ?_ | refine O.load hE T4 rfl rfl rfl rfl ?_
    refine O.build hE T73 L73 rfl rfl rfl ?_
    refine O.store hE T73 rfl rfl rfl rfl rfl rfl ?_
    refine O.assign rfl rfl ?_
    refine O.nil ?_
    try refine Run.keep [0,1,2,4,5,7,8,9,10,11,12,14,15,25,27,28,29,30,37,46,47,48,49,60] rfl rfl ?_
    refine Run.ret ?_
    repeat (first | refine thenR_ret ?_ | refine roundR_ret ?_ | refine blockR_ret ?_)
    exact Ends.of hE (.inr rfl) rfl rfl (SLe.drop (by repeat (first | exact TmIn.nil | refine TmIn.cons rfl ?_)) (by repeat (first | exact BxIn.nil | refine BxIn.cons rfl ?_)) rfl rfl)
  ·
    have hq' : (dk.toList == s.toList) = false := by simpa using hq
    have hf2 : findC (cs.drop (j + 1)) s = some ⟨ck, ckd, cnl⟩ := by
      unfold findC at hfj ⊢
      rw [List.find?_cons_of_neg (by simpa using hq)] at hfj
      exact hfj
    repeat (first | refine Run.seq ?_ | refine Run.skip ?_ | refine Run.block ?_)
    refine Run.region ?_
    first | refine O.cmp rfl rfl rfl (by first | exact dT (by omega) | exact dF (by omega)) rfl ?_ | refine O.cmp rfl rfl rfl rfl rfl ?_
    refine O.nil ?_
    try refine Run.keep [0,1,2,4,5,7,8,9,10,11,12,14,15,25,27,28,29,30,37,46,47,48,49,60] rfl rfl ?_
    repeat (first | refine Run.seq ?_ | refine Run.skip ?_)
    first | refine Run.condT rfl rfl ?_ | refine Run.condF rfl rfl ?_ | refine Run.condT rfl (by assumption) ?_ | refine Run.condF rfl (by assumption) ?_
    repeat (first | refine Run.seq ?_ | refine Run.skip ?_ | refine Run.block ?_)
    refine Run.region ?_
    refine O.index hE T29 rfl T37 rfl rfl (by first | exact newest_pv | exact newest_gl rfl rfl | trivial) rfl (by omega) (by first | assumption | rfl) rfl rfl rfl ?_
    refine O.load hE T37 rfl rfl rfl rfl ?_
    refine O.alloc hE 7 T37 rfl rfl rfl ?_
    refine O.store hE T37 rfl rfl rfl rfl rfl rfl ?_
    refine O.nil ?_
    try refine Run.keep [0,1,2,4,5,7,8,9,10,11,12,14,15,25,27,28,29,30,37,46,47,48,49,60] rfl rfl ?_
    repeat (first | refine Run.seq ?_ | refine Run.skip ?_ | refine Run.block ?_)
    refine Run.region ?_
    refine O.field hE L37 rfl rfl rfl rfl ?_
    first | refine O.loadS hE T9 rfl rfl rfl (by rfl) rfl ?_ | refine O.loadE hE T9 rfl rfl (by rfl) rfl ?_ | refine O.load hE T9 rfl rfl rfl rfl ?_
    refine O.field hE L28 rfl rfl rfl rfl ?_
    first | refine O.loadS hE T9 rfl rfl rfl (by rfl) rfl ?_ | refine O.loadE hE T9 rfl rfl (by rfl) rfl ?_ | refine O.load hE T9 rfl rfl rfl rfl ?_
    refine O.strEqK rfl rfl hq' rfl ?_
    refine O.nil ?_
    try refine Run.keep [0,1,2,4,5,7,8,9,10,11,12,14,15,25,27,28,29,30,37,46,47,48,49,60] rfl rfl ?_
    repeat (first | refine Run.seq ?_ | refine Run.skip ?_)
    first | refine Run.condT rfl rfl ?_ | refine Run.condF rfl rfl ?_ | refine Run.condT rfl (by assumption) ?_ | refine Run.condF rfl (by assumption) ?_
    repeat (first | refine Run.seq ?_ | refine Run.skip ?_ | refine Run.block ?_)
    refine Run.region ?_
    first | refine O.ar rfl rfl rfl (by exact wrap_i64 (by omega) (by omega)) rfl ?_ | refine O.ar rfl rfl rfl rfl rfl ?_
    refine O.move rfl rfl ?_
    refine O.nil ?_
    try refine Run.keep [0,1,2,4,5,7,8,9,10,11,12,14,15,25,27,28,29,30,37,46,47,48,49,60] rfl rfl ?_
    refine ih (j + 1) _ ?_ ⟨by omega, hf2⟩ (by omega)
    exact SLe.drop (by repeat (first | exact TmIn.nil | refine TmIn.cons rfl ?_)) (by repeat (first | exact BxIn.nil | refine BxIn.cons rfl ?_)) rfl rfl
theorem fnOf {cs : List Kol} (hl : cs.length ≤ 5) {k : Int} {x : Xp} (h : Ty cs k x) : FnC (En Tryd.prog g) 35 [xA x, .pv (.lst 3 (cs.map kolE))] (.tup [srtA (kindP cs x), .pv (.int .i64 0)]) [] := by
  induction h with
  | @lit k v hv hn hk => exact fnOfLit v
  | @col c hf hn =>
    have := fnOfCol (g := g) hl hf
    rw [show kindP cs (.col c.nm) = ⟨c.kd, c.nl⟩ by simp only [kindP, hf]]
    exact this
  | @un op k ka a h ha ih =>
    rw [kindP_un]
    exact fnOf1 (by unfold UnTy at h; omega) ih (fnJoin1 h ha.kind)
  | @bi op k ka a b h ha hb ia ib =>
    rw [kindP_bi]
    exact fnOf2 (by unfold BiTy at h; omega) ia ib (fnJoin2 h ha.kind hb.kind)
theorem fnKOf (hV : VStr g) {cs : List Kol} (hc : ColsOk cs) {k : Int} {x : Xp} (h : Ty cs k x) (hd : x.dp ≤ 7) (hs : x.sz ≤ 40) : FnC (En Tryd.prog g) 14 [xA x, .pv (.lst 3 (cs.map kolE))] (.tup [.pv (.int .i64 (kindP cs x).kd), .pv (.bool (kindP cs x).nl), .pv (.int .i64 0)]) [] := by
  have hE := EnOk g
  have c1 := fnXCheck hV h.wf hd hs
  have c2 := fnColumns (g := g) hc
  have c3 := fnOf (g := g) hc.len h
  clear h
  generalize kindP cs x = r at *
  obtain ⟨rk, rn⟩ := r
  dsimp only at c3 ⊢
  refine FnC.of Tryd.func14 rfl rfl rfl rfl ?_
  repeat (first | refine Run.seq ?_ | refine Run.skip ?_ | refine Run.block ?_)
  refine Run.region ?_
  refine O.box 2 rfl (by first | rfl | exact cells_ones (by simp [ones_app, ones_ints, ones, AV.one, PV.one])) rfl rfl ?_
  refine O.assign rfl rfl ?_
  refine O.assign rfl rfl ?_
  refine O.assign rfl rfl ?_
  refine O.nil ?_
  try refine Run.keep [0,1,2,4,5,6,7,8,9,13,18,27] rfl rfl ?_
  repeat (first | refine Run.seq ?_ | refine Run.skip ?_ | refine Run.block ?_)
  refine Run.region ?_
  refine O.load hE T28 rfl rfl rfl rfl ?_
  refine O.callE c1 rfl (by first | rfl | simp [closed, men3, mens2_app, mens2_ints, mens2, men2, men1, mens1_app, mens1_ints, mens1]) (by first | rfl | simp [d2, ds1_ints, ds1_app, ds1, d1, ds0_app, ds0_ints, ds0, d0]) rfl ?_
  refine O.assign rfl rfl ?_
  refine O.nil ?_
  try refine Run.keep [0,1,2,4,5,6,7,8,9,13,18,27] rfl rfl ?_
  repeat (first | refine Run.seq ?_ | refine Run.skip ?_ | refine Run.block ?_)
  refine Run.region ?_
  refine O.move rfl rfl ?_
  first | refine O.cmp rfl rfl rfl (by first | exact dT (by omega) | exact dF (by omega)) rfl ?_ | refine O.cmp rfl rfl rfl rfl rfl ?_
  refine O.nil ?_
  try refine Run.keep [0,1,2,4,5,6,7,8,9,13,18,27] rfl rfl ?_
  repeat (first | refine Run.seq ?_ | refine Run.skip ?_)
  first | refine Run.condT rfl rfl ?_ | refine Run.condF rfl rfl ?_ | refine Run.condT rfl (by assumption) ?_ | refine Run.condF rfl (by assumption) ?_
  repeat (first | refine Run.seq ?_ | refine Run.skip ?_ | refine Run.block ?_)
  refine Run.region ?_
  refine O.move rfl rfl ?_
  refine O.callE c2 rfl (by first | rfl | simp [closed, men3, mens2_app, mens2_ints, mens2, men2, men1, mens1_app, mens1_ints, mens1]) (by first | rfl | simp [d2, ds1_ints, ds1_app, ds1, d1, ds0_app, ds0_ints, ds0, d0]) rfl ?_
  refine O.assign rfl rfl ?_
  refine O.nil ?_
  try refine Run.keep [0,1,2,4,5,6,7,8,9,13,18,27] rfl rfl ?_
  repeat (first | refine Run.seq ?_ | refine Run.skip ?_ | refine Run.block ?_)
  refine Run.region ?_
  refine O.move rfl rfl ?_
  first | refine O.cmp rfl rfl rfl (by first | exact dT (by omega) | exact dF (by omega)) rfl ?_ | refine O.cmp rfl rfl rfl rfl rfl ?_
  refine O.nil ?_
  try refine Run.keep [0,1,2,4,5,6,7,8,9,13,18,27] rfl rfl ?_
  repeat (first | refine Run.seq ?_ | refine Run.skip ?_)
  first | refine Run.condT rfl rfl ?_ | refine Run.condF rfl rfl ?_ | refine Run.condT rfl (by assumption) ?_ | refine Run.condF rfl (by assumption) ?_
  repeat (first | refine Run.seq ?_ | refine Run.skip ?_ | refine Run.block ?_)
  refine Run.region ?_
  refine O.load hE T28 rfl rfl rfl rfl ?_
  refine O.move rfl rfl ?_
  refine O.callE c3 rfl (by first | rfl | simp [closed, men3, mens2_app, mens2_ints, mens2, men2, men1, mens1_app, mens1_ints, mens1]) (by first | rfl | simp [d2, ds1_ints, ds1_app, ds1, d1, ds0_app, ds0_ints, ds0, d0]) rfl ?_
  refine O.move rfl rfl ?_
  refine O.extract rfl rfl rfl ?_
  refine O.extract rfl rfl rfl ?_
  refine O.alloc hE 9 T73 rfl rfl rfl ?_
  refine O.store hE T73 rfl rfl rfl rfl rfl rfl ?_
  refine O.assign rfl rfl ?_
  refine O.nil ?_
  try refine Run.keep [0,1,2,4,5,6,7,8,9,13,18,27] rfl rfl ?_
  repeat (first | refine Run.seq ?_ | refine Run.skip ?_ | refine Run.block ?_)
  refine Run.region ?_
  refine O.move rfl rfl ?_
  first | refine O.cmp rfl rfl rfl (by first | exact dT (by omega) | exact dF (by omega)) rfl ?_ | refine O.cmp rfl rfl rfl rfl rfl ?_
  refine O.nil ?_
  try refine Run.keep [0,1,2,4,5,6,7,8,9,13,18,27] rfl rfl ?_
  repeat (first | refine Run.seq ?_ | refine Run.skip ?_)
  first | refine Run.condT rfl rfl ?_ | refine Run.condF rfl rfl ?_ | refine Run.condT rfl (by assumption) ?_ | refine Run.condF rfl (by assumption) ?_
  repeat (first | refine Run.seq ?_ | refine Run.skip ?_ | refine Run.block ?_)
  refine Run.draw mixed rfl ?_
  refine D.field hE L73 rfl rfl rfl rfl ?_
  first | refine D.loadS hE T3 rfl rfl rfl (by rfl) rfl ?_ | refine D.loadE hE T3 rfl rfl (by rfl) rfl ?_ | refine D.load hE T3 rfl rfl rfl rfl ?_
  refine D.field hE L73 rfl rfl rfl rfl ?_
  first | refine D.loadS hE T4 rfl rfl rfl (by rfl) rfl ?_ | refine D.loadE hE T4 rfl rfl (by rfl) rfl ?_ | refine D.load hE T4 rfl rfl rfl rfl ?_
  refine D.assign rfl rfl ?_
  refine D.assign rfl rfl ?_
  refine D.assign rfl rfl ?_
  refine Dr.nil ?_
  refine ⟨rfl, ?_⟩
  try refine Run.keep [0,1,2,4,5,6,7,8,9,13,18,27] rfl rfl ?_
  (repeat (first | refine Run.seq ?_ | refine Run.skip ?_)); (try refine Run.ret ?_); first | exact Ends.flat hE (.inr rfl) rfl rfl (AVle.of_eq rfl) rfl | exact Ends.flat hE (.inl rfl) rfl rfl (AVle.of_eq rfl) rfl
end Go.Proofs.YtdigejpgjnhclaaDoor.Vm
end
end
