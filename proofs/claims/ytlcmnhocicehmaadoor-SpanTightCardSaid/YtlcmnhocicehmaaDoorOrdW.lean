/- Which of two values stands first, and comparisons. Conditions: what utf8.ValidString answers. (Out of the texts of the rows' order.) -/
import Derived.Test.YtlcmnhocicehmaaDoorEvalC
import Derived.Test.YtlcmnhocicehmaaDoorExecT
namespace Go.Proofs.YtlcmnhocicehmaaDoor.Vm
open Go Go.RowKit Go.Lib
set_option linter.unusedVariables false
set_option linter.unusedSimpArgs false
attribute [local irreducible] Ops Dr Run
def lessB (v w : Vl) : Bool :=
  if v.kd = w.kd then (if v.kd = 3 then FloatKind.f64.format.order v.b.toNat w.b.toNat == some .lt else if v.kd = 4 then Op.bytesLess v.s.toList w.s.toList else decide (v.n < w.n)) else decide (v.kd < w.kd)
def moreB (v w : Vl) : Bool :=
  if v.kd = w.kd then (if v.kd = 3 then FloatKind.f64.format.order v.b.toNat w.b.toNat == some .gt else if v.kd = 4 then !(Op.bytesLess v.s.toList w.s.toList || v.s.toList == w.s.toList) else decide (w.n < v.n)) else decide (w.kd < v.kd)
def ordV (v w : Vl) : Int := if lessB v w then -1 else if moreB v w then 1 else 0
section
variable {E : Env} {n : Nat} {tm : List (Nat × AV)} {bx : List (Nat × Box)} {ops : Array Oper} {l : List Oper} {d : Tmp} {ty : TypeId} {pos : String} {after : Array Edge}
theorem D.extern {Θ : List Rec → St → Prop} {f : FuncId} {fn : Func} {e : Array Value → Sem Value} {y : Operand} {ts : Array TypeId} {p : PV} {u v : Value} {x : AV} (hf : E.P.funcs[f]? = some fn) (hname : (fn.name == "runtime.NumGoroutine") = false) (hb : fn.body.isNone = true) (hn : Extern.findNext fn = none) (he : Extern.find fn = some e)
    (hy : evO E tm y = some (.pv p)) (hp : p.val? = some u) (hrun : ∀ w, (e #[u]).run E.P w = .ok v w) (hx : AV.ofVal v = some x) (hd : Nat.blt d n = true) (h : Dr E.P E.g ops l ⟨n, (d, x) :: tm, bx⟩ (fun rs => Θ (⟨rtOf y (.pv p), [], [], some d, x, []⟩ :: rs))) :
    Dr E.P E.g ops (⟨some d, .call { callee := .value (.func f), args := #[y], argTypes := ts }, ty, pos, after, none⟩ :: l) ⟨n, tm, bx⟩ Θ := by
  refine D.of (rt := rtOf y (.pv p)) (rb := []) (rt_now hy) none_met hd (fun s hs _ hd' => ?_) h
  refine OpOk.val (o := ⟨some d, .call { callee := .value (.func f), args := #[y], argTypes := ts }, ty, pos, after, none⟩) (s := s) (fun t ht => by obtain rfl := Option.some.inj ht; exact hd') (fun cx a w G hP hg hs' => ⟨v, ?_, RA.ofVal hx⟩)
  have h1 := hs'.ev hg y
  rw [evO_ok (n := s.n) (bx := s.bx) (rt_ev hy hs)] at h1
  have e1 : a.eval y = u := h1.of_val hp
  have hr : (callFunc f #[u]).run E.P w = .ok (.value v) w := by rw [run_callFunc_extern hf hname hb hn he, hrun]; rfl
  have e3 : (execOp a.eval ⟨some d, .call { callee := .value (.func f), args := #[y], argTypes := ts }, ty, pos, after, none⟩).run E.P w = (callFunc f (#[y].map a.eval)).run E.P w := by
    have hr2 : (callFunc f (#[y].map a.eval)).run E.P w = .ok (.value v) w := by
      have e2 : (#[y].map a.eval : Array Value) = #[u] := by simp [e1]
      rw [e2]; exact hr
    rw [hr2]
    simp only [execOp, resolve, Act.eval, Deferred.ofValue, invoke, Sem.run_bind, Sem.run_pure, Result.andThen_ok]
    rw [show (#[] ++ Array.map a.eval #[y] ++ #[] : Array Value) = Array.map a.eval #[y] by simp]
    exact hr2
  rw [e3]
  have e2 : (#[y].map a.eval : Array Value) = #[u] := by simp [e1]
  rw [e2]
  exact hr
theorem O.ltF {Θ : St → Prop} {t t' : TypeId} {y z : Operand} {m j : Nat} {c : Bool} (hy : evO E tm y = some (.pv (.flt .f64 m))) (hz : evO E tm z = some (.pv (.flt .f64 j))) (hc : (FloatKind.f64.format.order m j == some .lt) = c) (hd : Nat.blt d n = true) (h : Ops E.P E.g ops l ⟨n, (d, .pv (.bool c)) :: tm, bx⟩ Θ) :
    Ops E.P E.g ops (⟨some d, .binOp .lss t y z t', ty, pos, after, none⟩ :: l) ⟨n, tm, bx⟩ Θ := by
  subst hc
  exact O.bin (v := .bool (FloatKind.f64.format.order m j == some .lt)) hy hz rfl rfl (now_flt rfl) rfl hd h
theorem O.gtF {Θ : St → Prop} {t t' : TypeId} {y z : Operand} {m j : Nat} {c : Bool} (hy : evO E tm y = some (.pv (.flt .f64 m))) (hz : evO E tm z = some (.pv (.flt .f64 j))) (hc : (FloatKind.f64.format.order m j == some .gt) = c) (hd : Nat.blt d n = true) (h : Ops E.P E.g ops l ⟨n, (d, .pv (.bool c)) :: tm, bx⟩ Θ) :
    Ops E.P E.g ops (⟨some d, .binOp .gtr t y z t', ty, pos, after, none⟩ :: l) ⟨n, tm, bx⟩ Θ := by
  subst hc
  exact O.bin (v := .bool (FloatKind.f64.format.order m j == some .gt)) hy hz rfl rfl (now_flt rfl) rfl hd h
theorem D.strLt {Θ : List Rec → St → Prop} {t t' : TypeId} {y z : Operand} {s s' : ByteArray} {c : Bool} (hy : evO E tm y = some (.pv (.str s))) (hz : evO E tm z = some (.pv (.str s'))) (hc : Op.bytesLess s.toList s'.toList = c) (hd : Nat.blt d n = true) (h : Dr E.P E.g ops l ⟨n, (d, .pv (.bool c)) :: tm, bx⟩ (fun rs => Θ (⟨rtOf y (.pv (.str s)) ++ rtOf z (.pv (.str s')), [], [], some d, .pv (.bool c), []⟩ :: rs))) :
    Dr E.P E.g ops (⟨some d, .binOp .lss t y z t', ty, pos, after, none⟩ :: l) ⟨n, tm, bx⟩ Θ := by
  subst hc
  exact D.bin (v := .bool (Op.bytesLess s.toList s'.toList)) hy hz rfl rfl rfl rfl hd h
theorem D.strGt {Θ : List Rec → St → Prop} {t t' : TypeId} {y z : Operand} {s s' : ByteArray} {c : Bool} (hy : evO E tm y = some (.pv (.str s))) (hz : evO E tm z = some (.pv (.str s'))) (hc : (!(Op.bytesLess s.toList s'.toList || s.toList == s'.toList)) = c) (hd : Nat.blt d n = true) (h : Dr E.P E.g ops l ⟨n, (d, .pv (.bool c)) :: tm, bx⟩ (fun rs => Θ (⟨rtOf y (.pv (.str s)) ++ rtOf z (.pv (.str s')), [], [], some d, .pv (.bool c), []⟩ :: rs))) :
    Dr E.P E.g ops (⟨some d, .binOp .gtr t y z t', ty, pos, after, none⟩ :: l) ⟨n, tm, bx⟩ Θ := by
  subst hc
  exact D.bin (v := .bool (!(Op.bytesLess s.toList s'.toList || s.toList == s'.toList))) hy hz rfl rfl rfl rfl hd h
end
variable {g : Nat → Option (List PV)}
theorem fnOrdV (v w : Vl) : FnC (En Tryd.prog g) 124 [vlA v, vlA w] (.pv (.int .i64 (ordV v w))) [] := by
  have hE := EnOk g
  unfold ordV
  obtain ⟨L, hL⟩ : ∃ L, lessB v w = L := ⟨_, rfl⟩
  obtain ⟨M, hM⟩ : ∃ M, moreB v w = M := ⟨_, rfl⟩
  rw [hL, hM]
  obtain ⟨k, n, b, s⟩ := v
  obtain ⟨k', n', b', s'⟩ := w
  unfold lessB at hL
  unfold moreB at hM
  dsimp only at hL hM
  dsimp only [vlA]
  by_cases hk : k = k'
  ·
    subst hk
    rw [if_pos rfl] at hL hM
    by_cases h3 : k = 3
    ·
      subst h3
      rw [if_pos rfl] at hL hM
      refine FnC.of Tryd.func124 rfl rfl rfl rfl ?_
      repeat (first | refine Run.seq ?_ | refine Run.skip ?_ | refine Run.block ?_)
      refine Run.region ?_
      refine O.box 2 rfl (by first | rfl | exact cells_ones (by simp [ones_app, ones_ints, ones, AV.one, PV.one])) rfl rfl ?_
      refine O.box 3 rfl (by first | rfl | exact cells_ones (by simp [ones_app, ones_ints, ones, AV.one, PV.one])) rfl rfl ?_
      refine O.assign rfl rfl ?_
      refine O.nil ?_
      try refine Run.keep [0,1,2,3,4,5,6,7,8,19,35,51,65,66] rfl rfl ?_
      repeat (first | refine Run.seq ?_ | refine Run.skip ?_ | refine Run.block ?_)
      refine Run.region ?_
      refine O.assign rfl rfl ?_
      refine O.assign rfl rfl ?_
      refine O.nil ?_
      try refine Run.keep [0,1,2,3,4,5,6,7,8,19,35,51,65,66] rfl rfl ?_
      repeat (first | refine Run.seq ?_ | refine Run.skip ?_ | refine Run.block ?_)
      refine Run.region ?_
      refine O.field hE L25 rfl rfl rfl rfl ?_
      first | refine O.loadS hE T3 rfl rfl rfl (by rfl) rfl ?_ | refine O.loadE hE T3 rfl rfl (by rfl) rfl ?_ | refine O.load hE T3 rfl rfl rfl rfl ?_
      refine O.field hE L25 rfl rfl rfl rfl ?_
      first | refine O.loadS hE T3 rfl rfl rfl (by rfl) rfl ?_ | refine O.loadE hE T3 rfl rfl (by rfl) rfl ?_ | refine O.load hE T3 rfl rfl rfl rfl ?_
      first | refine O.cmp rfl rfl rfl (by first | exact dT (by omega) | exact dF (by omega)) rfl ?_ | refine O.cmp rfl rfl rfl rfl rfl ?_
      refine O.assign rfl rfl ?_
      refine O.nil ?_
      try refine Run.keep [0,1,2,3,4,5,6,7,8,19,35,51,65,66] rfl rfl ?_
      repeat (first | refine Run.seq ?_ | refine Run.skip ?_)
      first | refine Run.condT rfl rfl ?_ | refine Run.condF rfl rfl ?_ | refine Run.condT rfl (by assumption) ?_ | refine Run.condF rfl (by assumption) ?_
      repeat (first | refine Run.seq ?_ | refine Run.skip ?_ | refine Run.block ?_)
      refine Run.region ?_
      refine O.field hE L25 rfl rfl rfl rfl ?_
      first | refine O.loadS hE T3 rfl rfl rfl (by rfl) rfl ?_ | refine O.loadE hE T3 rfl rfl (by rfl) rfl ?_ | refine O.load hE T3 rfl rfl rfl rfl ?_
      first | refine O.cmp rfl rfl rfl (by first | exact dT (by omega) | exact dF (by omega)) rfl ?_ | refine O.cmp rfl rfl rfl rfl rfl ?_
      refine O.assign rfl rfl ?_
      refine O.nil ?_
      try refine Run.keep [0,1,2,3,4,5,6,7,8,19,35,51,65,66] rfl rfl ?_
      repeat (first | refine Run.seq ?_ | refine Run.skip ?_)
      first | refine Run.condT rfl rfl ?_ | refine Run.condF rfl rfl ?_ | refine Run.condT rfl (by assumption) ?_ | refine Run.condF rfl (by assumption) ?_
      repeat (first | refine Run.seq ?_ | refine Run.skip ?_ | refine Run.block ?_)
      refine Run.draw mixed rfl ?_
      refine D.field hE L25 rfl rfl rfl rfl ?_
      first | refine D.loadS hE T23 rfl rfl rfl (by rfl) rfl ?_ | refine D.loadE hE T23 rfl rfl (by rfl) rfl ?_ | refine D.load hE T23 rfl rfl rfl rfl ?_
      refine D.extern (e := Extern.MathFloatBits.float64frombits) (v := .float .f64 b.toNat) Tryd.func76 (by kernel_rfl) (by kernel_rfl) (by kernel_rfl) (by kernel_rfl) rfl rfl (fun _ => rfl) rfl rfl ?_
      refine D.field hE L25 rfl rfl rfl rfl ?_
      first | refine D.loadS hE T23 rfl rfl rfl (by rfl) rfl ?_ | refine D.loadE hE T23 rfl rfl (by rfl) rfl ?_ | refine D.load hE T23 rfl rfl rfl rfl ?_
      refine D.extern (e := Extern.MathFloatBits.float64frombits) (v := .float .f64 b'.toNat) Tryd.func76 (by kernel_rfl) (by kernel_rfl) (by kernel_rfl) (by kernel_rfl) rfl rfl (fun _ => rfl) rfl rfl ?_
      refine D.assign rfl rfl ?_
      refine D.assign rfl rfl ?_
      refine Dr.nil ?_
      refine ⟨rfl, ?_⟩
      try refine Run.keep [0,1,2,3,4,5,6,7,8,19,35,51,65,66] rfl rfl ?_
      repeat (first | refine Run.seq ?_ | refine Run.skip ?_ | refine Run.block ?_)
      refine Run.region ?_
      refine O.move rfl rfl ?_
      refine O.move rfl rfl ?_
      refine O.ltF rfl rfl hL rfl ?_
      refine O.move rfl rfl ?_
      refine O.move rfl rfl ?_
      refine O.gtF rfl rfl hM rfl ?_
      refine O.assign rfl rfl ?_
      refine O.assign rfl rfl ?_
      refine O.nil ?_
      try refine Run.keep [0,1,2,3,4,5,6,7,8,19,35,51,65,66] rfl rfl ?_
      repeat (first | refine Run.seq ?_ | refine Run.skip ?_ | refine Run.block ?_)
      refine Run.region ?_
      refine O.move rfl rfl ?_
      refine O.nil ?_
      try refine Run.keep [0,1,2,3,4,5,6,7,8,19,35,51,65,66] rfl rfl ?_
      cases L with
      | true =>
        repeat (first | refine Run.seq ?_ | refine Run.skip ?_)
        first | refine Run.condT rfl rfl ?_ | refine Run.condF rfl rfl ?_ | refine Run.condT rfl (by assumption) ?_ | refine Run.condF rfl (by assumption) ?_
        repeat (first | refine Run.seq ?_ | refine Run.skip ?_ | refine Run.block ?_)
        refine Run.region ?_
        refine O.assign rfl rfl ?_
        refine O.nil ?_
        try refine Run.keep [0,1,2,3,4,5,6,7,8,19,35,51,65,66] rfl rfl ?_
        refine Run.ret ?_
        (repeat (first | refine Run.seq ?_ | refine Run.skip ?_)); (try refine Run.ret ?_); first | exact Ends.flat hE (.inr rfl) rfl rfl (AVle.of_eq rfl) rfl | exact Ends.flat hE (.inl rfl) rfl rfl (AVle.of_eq rfl) rfl
      | false =>
        repeat (first | refine Run.seq ?_ | refine Run.skip ?_)
        first | refine Run.condT rfl rfl ?_ | refine Run.condF rfl rfl ?_ | refine Run.condT rfl (by assumption) ?_ | refine Run.condF rfl (by assumption) ?_
        repeat (first | refine Run.seq ?_ | refine Run.skip ?_ | refine Run.block ?_)
        refine Run.region ?_
        refine O.move rfl rfl ?_
        refine O.nil ?_
        try refine Run.keep [0,1,2,3,4,5,6,7,8,19,35,51,65,66] rfl rfl ?_
        cases M with
        | true =>
          repeat (first | refine Run.seq ?_ | refine Run.skip ?_)
          first | refine Run.condT rfl rfl ?_ | refine Run.condF rfl rfl ?_ | refine Run.condT rfl (by assumption) ?_ | refine Run.condF rfl (by assumption) ?_
          repeat (first | refine Run.seq ?_ | refine Run.skip ?_ | refine Run.block ?_)
          refine Run.region ?_
          refine O.assign rfl rfl ?_
          refine O.nil ?_
          try refine Run.keep [0,1,2,3,4,5,6,7,8,19,35,51,65,66] rfl rfl ?_
          refine Run.ret ?_
          (repeat (first | refine Run.seq ?_ | refine Run.skip ?_)); (try refine Run.ret ?_); first | exact Ends.flat hE (.inr rfl) rfl rfl (AVle.of_eq rfl) rfl | exact Ends.flat hE (.inl rfl) rfl rfl (AVle.of_eq rfl) rfl
        | false =>
          repeat (first | refine Run.seq ?_ | refine Run.skip ?_)
          first | refine Run.condT rfl rfl ?_ | refine Run.condF rfl rfl ?_ | refine Run.condT rfl (by assumption) ?_ | refine Run.condF rfl (by assumption) ?_
          repeat (first | refine Run.seq ?_ | refine Run.skip ?_ | refine Run.block ?_)
          refine Run.region ?_
          refine O.assign rfl rfl ?_
          refine O.nil ?_
          try refine Run.keep [0,1,2,3,4,5,6,7,8,19,35,51,65,66] rfl rfl ?_
          (repeat (first | refine Run.seq ?_ | refine Run.skip ?_)); (try refine Run.ret ?_); first | exact Ends.flat hE (.inr rfl) rfl rfl (AVle.of_eq rfl) rfl | exact Ends.flat hE (.inl rfl) rfl rfl (AVle.of_eq rfl) rfl
    rw [if_neg h3] at hL hM
    by_cases h4 : k = 4
    ·
      subst h4
      rw [if_pos rfl] at hL hM
      refine FnC.of Tryd.func124 rfl rfl rfl rfl ?_
      repeat (first | refine Run.seq ?_ | refine Run.skip ?_ | refine Run.block ?_)
      refine Run.region ?_
      refine O.box 2 rfl (by first | rfl | exact cells_ones (by simp [ones_app, ones_ints, ones, AV.one, PV.one])) rfl rfl ?_
      refine O.box 3 rfl (by first | rfl | exact cells_ones (by simp [ones_app, ones_ints, ones, AV.one, PV.one])) rfl rfl ?_
      refine O.assign rfl rfl ?_
      refine O.nil ?_
      try refine Run.keep [0,1,2,3,4,5,6,7,8,19,35,51,65,66] rfl rfl ?_
      repeat (first | refine Run.seq ?_ | refine Run.skip ?_ | refine Run.block ?_)
      refine Run.region ?_
      refine O.assign rfl rfl ?_
      refine O.assign rfl rfl ?_
      refine O.nil ?_
      try refine Run.keep [0,1,2,3,4,5,6,7,8,19,35,51,65,66] rfl rfl ?_
      repeat (first | refine Run.seq ?_ | refine Run.skip ?_ | refine Run.block ?_)
      refine Run.region ?_
      refine O.field hE L25 rfl rfl rfl rfl ?_
      first | refine O.loadS hE T3 rfl rfl rfl (by rfl) rfl ?_ | refine O.loadE hE T3 rfl rfl (by rfl) rfl ?_ | refine O.load hE T3 rfl rfl rfl rfl ?_
      refine O.field hE L25 rfl rfl rfl rfl ?_
      first | refine O.loadS hE T3 rfl rfl rfl (by rfl) rfl ?_ | refine O.loadE hE T3 rfl rfl (by rfl) rfl ?_ | refine O.load hE T3 rfl rfl rfl rfl ?_
      first | refine O.cmp rfl rfl rfl (by first | exact dT (by omega) | exact dF (by omega)) rfl ?_ | refine O.cmp rfl rfl rfl rfl rfl ?_
      refine O.assign rfl rfl ?_
      refine O.nil ?_
      try refine Run.keep [0,1,2,3,4,5,6,7,8,19,35,51,65,66] rfl rfl ?_
      repeat (first | refine Run.seq ?_ | refine Run.skip ?_)
      first | refine Run.condT rfl rfl ?_ | refine Run.condF rfl rfl ?_ | refine Run.condT rfl (by assumption) ?_ | refine Run.condF rfl (by assumption) ?_
      repeat (first | refine Run.seq ?_ | refine Run.skip ?_ | refine Run.block ?_)
      refine Run.region ?_
      refine O.field hE L25 rfl rfl rfl rfl ?_
      first | refine O.loadS hE T3 rfl rfl rfl (by rfl) rfl ?_ | refine O.loadE hE T3 rfl rfl (by rfl) rfl ?_ | refine O.load hE T3 rfl rfl rfl rfl ?_
      first | refine O.cmp rfl rfl rfl (by first | exact dT (by omega) | exact dF (by omega)) rfl ?_ | refine O.cmp rfl rfl rfl rfl rfl ?_
      refine O.assign rfl rfl ?_
      refine O.nil ?_
      try refine Run.keep [0,1,2,3,4,5,6,7,8,19,35,51,65,66] rfl rfl ?_
      repeat (first | refine Run.seq ?_ | refine Run.skip ?_)
      first | refine Run.condT rfl rfl ?_ | refine Run.condF rfl rfl ?_ | refine Run.condT rfl (by assumption) ?_ | refine Run.condF rfl (by assumption) ?_
      repeat (first | refine Run.seq ?_ | refine Run.skip ?_ | refine Run.block ?_)
      refine Run.region ?_
      refine O.field hE L25 rfl rfl rfl rfl ?_
      first | refine O.loadS hE T3 rfl rfl rfl (by rfl) rfl ?_ | refine O.loadE hE T3 rfl rfl (by rfl) rfl ?_ | refine O.load hE T3 rfl rfl rfl rfl ?_
      first | refine O.cmp rfl rfl rfl (by first | exact dT (by omega) | exact dF (by omega)) rfl ?_ | refine O.cmp rfl rfl rfl rfl rfl ?_
      refine O.assign rfl rfl ?_
      refine O.nil ?_
      try refine Run.keep [0,1,2,3,4,5,6,7,8,19,35,51,65,66] rfl rfl ?_
      repeat (first | refine Run.seq ?_ | refine Run.skip ?_)
      first | refine Run.condT rfl rfl ?_ | refine Run.condF rfl rfl ?_ | refine Run.condT rfl (by assumption) ?_ | refine Run.condF rfl (by assumption) ?_
      repeat (first | refine Run.seq ?_ | refine Run.skip ?_ | refine Run.block ?_)
      refine Run.draw mixed rfl ?_
      refine D.field hE L25 rfl rfl rfl rfl ?_
      first | refine D.loadS hE T9 rfl rfl rfl (by rfl) rfl ?_ | refine D.loadE hE T9 rfl rfl (by rfl) rfl ?_ | refine D.load hE T9 rfl rfl rfl rfl ?_
      refine D.field hE L25 rfl rfl rfl rfl ?_
      first | refine D.loadS hE T9 rfl rfl rfl (by rfl) rfl ?_ | refine D.loadE hE T9 rfl rfl (by rfl) rfl ?_ | refine D.load hE T9 rfl rfl rfl rfl ?_
      refine D.strLt rfl rfl hL rfl ?_
      refine D.field hE L25 rfl rfl rfl rfl ?_
      first | refine D.loadS hE T9 rfl rfl rfl (by rfl) rfl ?_ | refine D.loadE hE T9 rfl rfl (by rfl) rfl ?_ | refine D.load hE T9 rfl rfl rfl rfl ?_
      refine D.field hE L25 rfl rfl rfl rfl ?_
      first | refine D.loadS hE T9 rfl rfl rfl (by rfl) rfl ?_ | refine D.loadE hE T9 rfl rfl (by rfl) rfl ?_ | refine D.load hE T9 rfl rfl rfl rfl ?_
      refine D.strGt rfl rfl hM rfl ?_
      refine D.assign rfl rfl ?_
      refine D.assign rfl rfl ?_
      refine Dr.nil ?_
      refine ⟨rfl, ?_⟩
      try refine Run.keep [0,1,2,3,4,5,6,7,8,19,35,51,65,66] rfl rfl ?_
      repeat (first | refine Run.seq ?_ | refine Run.skip ?_ | refine Run.block ?_)
      refine Run.region ?_
      refine O.move rfl rfl ?_
      refine O.nil ?_
      try refine Run.keep [0,1,2,3,4,5,6,7,8,19,35,51,65,66] rfl rfl ?_
      cases L with
      | true =>
        repeat (first | refine Run.seq ?_ | refine Run.skip ?_)
        first | refine Run.condT rfl rfl ?_ | refine Run.condF rfl rfl ?_ | refine Run.condT rfl (by assumption) ?_ | refine Run.condF rfl (by assumption) ?_
        repeat (first | refine Run.seq ?_ | refine Run.skip ?_ | refine Run.block ?_)
        refine Run.region ?_
        refine O.assign rfl rfl ?_
        refine O.nil ?_
        try refine Run.keep [0,1,2,3,4,5,6,7,8,19,35,51,65,66] rfl rfl ?_
        refine Run.ret ?_
        (repeat (first | refine Run.seq ?_ | refine Run.skip ?_)); (try refine Run.ret ?_); first | exact Ends.flat hE (.inr rfl) rfl rfl (AVle.of_eq rfl) rfl | exact Ends.flat hE (.inl rfl) rfl rfl (AVle.of_eq rfl) rfl
      | false =>
        repeat (first | refine Run.seq ?_ | refine Run.skip ?_)
        first | refine Run.condT rfl rfl ?_ | refine Run.condF rfl rfl ?_ | refine Run.condT rfl (by assumption) ?_ | refine Run.condF rfl (by assumption) ?_
        repeat (first | refine Run.seq ?_ | refine Run.skip ?_ | refine Run.block ?_)
        refine Run.region ?_
        refine O.move rfl rfl ?_
        refine O.nil ?_
        try refine Run.keep [0,1,2,3,4,5,6,7,8,19,35,51,65,66] rfl rfl ?_
        cases M with
        | true =>
          repeat (first | refine Run.seq ?_ | refine Run.skip ?_)
          first | refine Run.condT rfl rfl ?_ | refine Run.condF rfl rfl ?_ | refine Run.condT rfl (by assumption) ?_ | refine Run.condF rfl (by assumption) ?_
          repeat (first | refine Run.seq ?_ | refine Run.skip ?_ | refine Run.block ?_)
          refine Run.region ?_
          refine O.assign rfl rfl ?_
          refine O.nil ?_
          try refine Run.keep [0,1,2,3,4,5,6,7,8,19,35,51,65,66] rfl rfl ?_
          refine Run.ret ?_
          (repeat (first | refine Run.seq ?_ | refine Run.skip ?_)); (try refine Run.ret ?_); first | exact Ends.flat hE (.inr rfl) rfl rfl (AVle.of_eq rfl) rfl | exact Ends.flat hE (.inl rfl) rfl rfl (AVle.of_eq rfl) rfl
        | false =>
          repeat (first | refine Run.seq ?_ | refine Run.skip ?_)
          first | refine Run.condT rfl rfl ?_ | refine Run.condF rfl rfl ?_ | refine Run.condT rfl (by assumption) ?_ | refine Run.condF rfl (by assumption) ?_
          repeat (first | refine Run.seq ?_ | refine Run.skip ?_ | refine Run.block ?_)
          refine Run.region ?_
          refine O.assign rfl rfl ?_
          refine O.nil ?_
          try refine Run.keep [0,1,2,3,4,5,6,7,8,19,35,51,65,66] rfl rfl ?_
          (repeat (first | refine Run.seq ?_ | refine Run.skip ?_)); (try refine Run.ret ?_); first | exact Ends.flat hE (.inr rfl) rfl rfl (AVle.of_eq rfl) rfl | exact Ends.flat hE (.inl rfl) rfl rfl (AVle.of_eq rfl) rfl
    rw [if_neg h4] at hL hM
    refine FnC.of Tryd.func124 rfl rfl rfl rfl ?_
    repeat (first | refine Run.seq ?_ | refine Run.skip ?_ | refine Run.block ?_)
    refine Run.region ?_
    refine O.box 2 rfl (by first | rfl | exact cells_ones (by simp [ones_app, ones_ints, ones, AV.one, PV.one])) rfl rfl ?_
    refine O.box 3 rfl (by first | rfl | exact cells_ones (by simp [ones_app, ones_ints, ones, AV.one, PV.one])) rfl rfl ?_
    refine O.assign rfl rfl ?_
    refine O.nil ?_
    try refine Run.keep [0,1,2,3,4,5,6,7,8,19,35,51,65,66] rfl rfl ?_
    repeat (first | refine Run.seq ?_ | refine Run.skip ?_ | refine Run.block ?_)
    refine Run.region ?_
    refine O.assign rfl rfl ?_
    refine O.assign rfl rfl ?_
    refine O.nil ?_
    try refine Run.keep [0,1,2,3,4,5,6,7,8,19,35,51,65,66] rfl rfl ?_
    repeat (first | refine Run.seq ?_ | refine Run.skip ?_ | refine Run.block ?_)
    refine Run.region ?_
    refine O.field hE L25 rfl rfl rfl rfl ?_
    first | refine O.loadS hE T3 rfl rfl rfl (by rfl) rfl ?_ | refine O.loadE hE T3 rfl rfl (by rfl) rfl ?_ | refine O.load hE T3 rfl rfl rfl rfl ?_
    refine O.field hE L25 rfl rfl rfl rfl ?_
    first | refine O.loadS hE T3 rfl rfl rfl (by rfl) rfl ?_ | refine O.loadE hE T3 rfl rfl (by rfl) rfl ?_ | refine O.load hE T3 rfl rfl rfl rfl ?_
    refine O.cmp (c' := false) rfl rfl rfl (by simp) rfl ?_
    refine O.assign rfl rfl ?_
    refine O.nil ?_
    try refine Run.keep [0,1,2,3,4,5,6,7,8,19,35,51,65,66] rfl rfl ?_
    repeat (first | refine Run.seq ?_ | refine Run.skip ?_)
    first | refine Run.condT rfl rfl ?_ | refine Run.condF rfl rfl ?_ | refine Run.condT rfl (by assumption) ?_ | refine Run.condF rfl (by assumption) ?_
    repeat (first | refine Run.seq ?_ | refine Run.skip ?_ | refine Run.block ?_)
    refine Run.region ?_
    refine O.field hE L25 rfl rfl rfl rfl ?_
    first | refine O.loadS hE T3 rfl rfl rfl (by rfl) rfl ?_ | refine O.loadE hE T3 rfl rfl (by rfl) rfl ?_ | refine O.load hE T3 rfl rfl rfl rfl ?_
    refine O.cmp (c' := false) rfl rfl rfl (by simpa using h3) rfl ?_
    refine O.assign rfl rfl ?_
    refine O.nil ?_
    try refine Run.keep [0,1,2,3,4,5,6,7,8,19,35,51,65,66] rfl rfl ?_
    repeat (first | refine Run.seq ?_ | refine Run.skip ?_)
    first | refine Run.condT rfl rfl ?_ | refine Run.condF rfl rfl ?_ | refine Run.condT rfl (by assumption) ?_ | refine Run.condF rfl (by assumption) ?_
    repeat (first | refine Run.seq ?_ | refine Run.skip ?_ | refine Run.block ?_)
    refine Run.region ?_
    refine O.field hE L25 rfl rfl rfl rfl ?_
    first | refine O.loadS hE T3 rfl rfl rfl (by rfl) rfl ?_ | refine O.loadE hE T3 rfl rfl (by rfl) rfl ?_ | refine O.load hE T3 rfl rfl rfl rfl ?_
    refine O.cmp (c' := false) rfl rfl rfl (by simpa using h4) rfl ?_
    refine O.assign rfl rfl ?_
    refine O.nil ?_
    try refine Run.keep [0,1,2,3,4,5,6,7,8,19,35,51,65,66] rfl rfl ?_
    repeat (first | refine Run.seq ?_ | refine Run.skip ?_)
    first | refine Run.condT rfl rfl ?_ | refine Run.condF rfl rfl ?_ | refine Run.condT rfl (by assumption) ?_ | refine Run.condF rfl (by assumption) ?_
    repeat (first | refine Run.seq ?_ | refine Run.skip ?_ | refine Run.block ?_)
    refine Run.draw mixed rfl ?_
    refine D.field hE L25 rfl rfl rfl rfl ?_
    first | refine D.loadS hE T3 rfl rfl rfl (by rfl) rfl ?_ | refine D.loadE hE T3 rfl rfl (by rfl) rfl ?_ | refine D.load hE T3 rfl rfl rfl rfl ?_
    refine D.field hE L25 rfl rfl rfl rfl ?_
    first | refine D.loadS hE T3 rfl rfl rfl (by rfl) rfl ?_ | refine D.loadE hE T3 rfl rfl (by rfl) rfl ?_ | refine D.load hE T3 rfl rfl rfl rfl ?_
    refine D.cmp rfl rfl rfl hL rfl ?_
    refine D.field hE L25 rfl rfl rfl rfl ?_
    first | refine D.loadS hE T3 rfl rfl rfl (by rfl) rfl ?_ | refine D.loadE hE T3 rfl rfl (by rfl) rfl ?_ | refine D.load hE T3 rfl rfl rfl rfl ?_
    refine D.field hE L25 rfl rfl rfl rfl ?_
    first | refine D.loadS hE T3 rfl rfl rfl (by rfl) rfl ?_ | refine D.loadE hE T3 rfl rfl (by rfl) rfl ?_ | refine D.load hE T3 rfl rfl rfl rfl ?_
    refine D.cmp rfl rfl rfl hM rfl ?_
    refine D.assign rfl rfl ?_
    refine D.assign rfl rfl ?_
    refine Dr.nil ?_
    refine ⟨rfl, ?_⟩
    try refine Run.keep [0,1,2,3,4,5,6,7,8,19,35,51,65,66] rfl rfl ?_
    repeat (first | refine Run.seq ?_ | refine Run.skip ?_ | refine Run.block ?_)
    refine Run.region ?_
    refine O.move rfl rfl ?_
    refine O.nil ?_
    try refine Run.keep [0,1,2,3,4,5,6,7,8,19,35,51,65,66] rfl rfl ?_
    cases L with
    | true =>
      repeat (first | refine Run.seq ?_ | refine Run.skip ?_)
      first | refine Run.condT rfl rfl ?_ | refine Run.condF rfl rfl ?_ | refine Run.condT rfl (by assumption) ?_ | refine Run.condF rfl (by assumption) ?_
      repeat (first | refine Run.seq ?_ | refine Run.skip ?_ | refine Run.block ?_)
      refine Run.region ?_
      refine O.assign rfl rfl ?_
      refine O.nil ?_
      try refine Run.keep [0,1,2,3,4,5,6,7,8,19,35,51,65,66] rfl rfl ?_
      refine Run.ret ?_
      (repeat (first | refine Run.seq ?_ | refine Run.skip ?_)); (try refine Run.ret ?_); first | exact Ends.flat hE (.inr rfl) rfl rfl (AVle.of_eq rfl) rfl | exact Ends.flat hE (.inl rfl) rfl rfl (AVle.of_eq rfl) rfl
    | false =>
      repeat (first | refine Run.seq ?_ | refine Run.skip ?_)
      first | refine Run.condT rfl rfl ?_ | refine Run.condF rfl rfl ?_ | refine Run.condT rfl (by assumption) ?_ | refine Run.condF rfl (by assumption) ?_
      repeat (first | refine Run.seq ?_ | refine Run.skip ?_ | refine Run.block ?_)
      refine Run.region ?_
      refine O.move rfl rfl ?_
      refine O.nil ?_
      try refine Run.keep [0,1,2,3,4,5,6,7,8,19,35,51,65,66] rfl rfl ?_
      cases M with
      | true =>
        repeat (first | refine Run.seq ?_ | refine Run.skip ?_)
        first | refine Run.condT rfl rfl ?_ | refine Run.condF rfl rfl ?_ | refine Run.condT rfl (by assumption) ?_ | refine Run.condF rfl (by assumption) ?_
        repeat (first | refine Run.seq ?_ | refine Run.skip ?_ | refine Run.block ?_)
        refine Run.region ?_
        refine O.assign rfl rfl ?_
        refine O.nil ?_
        try refine Run.keep [0,1,2,3,4,5,6,7,8,19,35,51,65,66] rfl rfl ?_
        refine Run.ret ?_
        (repeat (first | refine Run.seq ?_ | refine Run.skip ?_)); (try refine Run.ret ?_); first | exact Ends.flat hE (.inr rfl) rfl rfl (AVle.of_eq rfl) rfl | exact Ends.flat hE (.inl rfl) rfl rfl (AVle.of_eq rfl) rfl
      | false =>
        repeat (first | refine Run.seq ?_ | refine Run.skip ?_)
        first | refine Run.condT rfl rfl ?_ | refine Run.condF rfl rfl ?_ | refine Run.condT rfl (by assumption) ?_ | refine Run.condF rfl (by assumption) ?_
        repeat (first | refine Run.seq ?_ | refine Run.skip ?_ | refine Run.block ?_)
        refine Run.region ?_
        refine O.assign rfl rfl ?_
        refine O.nil ?_
        try refine Run.keep [0,1,2,3,4,5,6,7,8,19,35,51,65,66] rfl rfl ?_
        (repeat (first | refine Run.seq ?_ | refine Run.skip ?_)); (try refine Run.ret ?_); first | exact Ends.flat hE (.inr rfl) rfl rfl (AVle.of_eq rfl) rfl | exact Ends.flat hE (.inl rfl) rfl rfl (AVle.of_eq rfl) rfl
  ·
    rw [if_neg hk] at hL hM
    refine FnC.of Tryd.func124 rfl rfl rfl rfl ?_
    repeat (first | refine Run.seq ?_ | refine Run.skip ?_ | refine Run.block ?_)
    refine Run.region ?_
    refine O.box 2 rfl (by first | rfl | exact cells_ones (by simp [ones_app, ones_ints, ones, AV.one, PV.one])) rfl rfl ?_
    refine O.box 3 rfl (by first | rfl | exact cells_ones (by simp [ones_app, ones_ints, ones, AV.one, PV.one])) rfl rfl ?_
    refine O.assign rfl rfl ?_
    refine O.nil ?_
    try refine Run.keep [0,1,2,3,4,5,6,7,8,19,35,51,65,66] rfl rfl ?_
    repeat (first | refine Run.seq ?_ | refine Run.skip ?_ | refine Run.block ?_)
    refine Run.region ?_
    refine O.assign rfl rfl ?_
    refine O.assign rfl rfl ?_
    refine O.nil ?_
    try refine Run.keep [0,1,2,3,4,5,6,7,8,19,35,51,65,66] rfl rfl ?_
    repeat (first | refine Run.seq ?_ | refine Run.skip ?_ | refine Run.block ?_)
    refine Run.region ?_
    refine O.field hE L25 rfl rfl rfl rfl ?_
    first | refine O.loadS hE T3 rfl rfl rfl (by rfl) rfl ?_ | refine O.loadE hE T3 rfl rfl (by rfl) rfl ?_ | refine O.load hE T3 rfl rfl rfl rfl ?_
    refine O.field hE L25 rfl rfl rfl rfl ?_
    first | refine O.loadS hE T3 rfl rfl rfl (by rfl) rfl ?_ | refine O.loadE hE T3 rfl rfl (by rfl) rfl ?_ | refine O.load hE T3 rfl rfl rfl rfl ?_
    refine O.cmp (c' := true) rfl rfl rfl (by simpa using hk) rfl ?_
    refine O.assign rfl rfl ?_
    refine O.nil ?_
    try refine Run.keep [0,1,2,3,4,5,6,7,8,19,35,51,65,66] rfl rfl ?_
    repeat (first | refine Run.seq ?_ | refine Run.skip ?_)
    first | refine Run.condT rfl rfl ?_ | refine Run.condF rfl rfl ?_ | refine Run.condT rfl (by assumption) ?_ | refine Run.condF rfl (by assumption) ?_
    repeat (first | refine Run.seq ?_ | refine Run.skip ?_ | refine Run.block ?_)
    refine Run.draw mixed rfl ?_
    refine D.field hE L25 rfl rfl rfl rfl ?_
    first | refine D.loadS hE T3 rfl rfl rfl (by rfl) rfl ?_ | refine D.loadE hE T3 rfl rfl (by rfl) rfl ?_ | refine D.load hE T3 rfl rfl rfl rfl ?_
    refine D.field hE L25 rfl rfl rfl rfl ?_
    first | refine D.loadS hE T3 rfl rfl rfl (by rfl) rfl ?_ | refine D.loadE hE T3 rfl rfl (by rfl) rfl ?_ | refine D.load hE T3 rfl rfl rfl rfl ?_
    refine D.cmp rfl rfl rfl hL rfl ?_
    refine D.field hE L25 rfl rfl rfl rfl ?_
    first | refine D.loadS hE T3 rfl rfl rfl (by rfl) rfl ?_ | refine D.loadE hE T3 rfl rfl (by rfl) rfl ?_ | refine D.load hE T3 rfl rfl rfl rfl ?_
    refine D.field hE L25 rfl rfl rfl rfl ?_
    first | refine D.loadS hE T3 rfl rfl rfl (by rfl) rfl ?_ | refine D.loadE hE T3 rfl rfl (by rfl) rfl ?_ | refine D.load hE T3 rfl rfl rfl rfl ?_
    refine D.cmp rfl rfl rfl hM rfl ?_
    refine D.assign rfl rfl ?_
    refine D.assign rfl rfl ?_
    refine Dr.nil ?_
    refine ⟨rfl, ?_⟩
    try refine Run.keep [0,1,2,3,4,5,6,7,8,19,35,51,65,66] rfl rfl ?_
    repeat (first | refine Run.seq ?_ | refine Run.skip ?_ | refine Run.block ?_)
    refine Run.region ?_
    refine O.move rfl rfl ?_
    refine O.nil ?_
    try refine Run.keep [0,1,2,3,4,5,6,7,8,19,35,51,65,66] rfl rfl ?_
    cases L with
    | true =>
      repeat (first | refine Run.seq ?_ | refine Run.skip ?_)
      first | refine Run.condT rfl rfl ?_ | refine Run.condF rfl rfl ?_ | refine Run.condT rfl (by assumption) ?_ | refine Run.condF rfl (by assumption) ?_
      repeat (first | refine Run.seq ?_ | refine Run.skip ?_ | refine Run.block ?_)
      refine Run.region ?_
      refine O.assign rfl rfl ?_
      refine O.nil ?_
      try refine Run.keep [0,1,2,3,4,5,6,7,8,19,35,51,65,66] rfl rfl ?_
      refine Run.ret ?_
      (repeat (first | refine Run.seq ?_ | refine Run.skip ?_)); (try refine Run.ret ?_); first | exact Ends.flat hE (.inr rfl) rfl rfl (AVle.of_eq rfl) rfl | exact Ends.flat hE (.inl rfl) rfl rfl (AVle.of_eq rfl) rfl
    | false =>
      repeat (first | refine Run.seq ?_ | refine Run.skip ?_)
      first | refine Run.condT rfl rfl ?_ | refine Run.condF rfl rfl ?_ | refine Run.condT rfl (by assumption) ?_ | refine Run.condF rfl (by assumption) ?_
      repeat (first | refine Run.seq ?_ | refine Run.skip ?_ | refine Run.block ?_)
      refine Run.region ?_
      refine O.move rfl rfl ?_
      refine O.nil ?_
      try refine Run.keep [0,1,2,3,4,5,6,7,8,19,35,51,65,66] rfl rfl ?_
      cases M with
      | true =>
        repeat (first | refine Run.seq ?_ | refine Run.skip ?_)
        first | refine Run.condT rfl rfl ?_ | refine Run.condF rfl rfl ?_ | refine Run.condT rfl (by assumption) ?_ | refine Run.condF rfl (by assumption) ?_
        repeat (first | refine Run.seq ?_ | refine Run.skip ?_ | refine Run.block ?_)
        refine Run.region ?_
        refine O.assign rfl rfl ?_
        refine O.nil ?_
        try refine Run.keep [0,1,2,3,4,5,6,7,8,19,35,51,65,66] rfl rfl ?_
        refine Run.ret ?_
        (repeat (first | refine Run.seq ?_ | refine Run.skip ?_)); (try refine Run.ret ?_); first | exact Ends.flat hE (.inr rfl) rfl rfl (AVle.of_eq rfl) rfl | exact Ends.flat hE (.inl rfl) rfl rfl (AVle.of_eq rfl) rfl
      | false =>
        repeat (first | refine Run.seq ?_ | refine Run.skip ?_)
        first | refine Run.condT rfl rfl ?_ | refine Run.condF rfl rfl ?_ | refine Run.condT rfl (by assumption) ?_ | refine Run.condF rfl (by assumption) ?_
        repeat (first | refine Run.seq ?_ | refine Run.skip ?_ | refine Run.block ?_)
        refine Run.region ?_
        refine O.assign rfl rfl ?_
        refine O.nil ?_
        try refine Run.keep [0,1,2,3,4,5,6,7,8,19,35,51,65,66] rfl rfl ?_
        (repeat (first | refine Run.seq ?_ | refine Run.skip ?_)); (try refine Run.ret ?_); first | exact Ends.flat hE (.inr rfl) rfl rfl (AVle.of_eq rfl) rfl | exact Ends.flat hE (.inl rfl) rfl rfl (AVle.of_eq rfl) rfl
theorem fnBothV (hV : VStr g) {v w : Vl} (hv : Good v) (hw : Good w) : FnC (En Tryd.prog g) 123 [vlA v, vlA w] (.pv (.int .i64 0)) [] := by
  have hE := EnOk g
  have c1 := fnCheck hV hv
  have c2 := fnCheck hV hw
  clear hv hw
  obtain ⟨k, n, b, s⟩ := v
  obtain ⟨k', n', b', s'⟩ := w
  dsimp only [vlA] at c1 c2 ⊢
  exact FnC.go hE mixed Tryd.func123 [(7, .fn _ _ _ c1), (9, .b false), (12, .fn _ _ _ c2)]
end Go.Proofs.YtlcmnhocicehmaaDoor.Vm
