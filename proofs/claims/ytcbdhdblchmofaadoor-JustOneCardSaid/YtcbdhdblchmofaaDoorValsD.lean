/- Contracts of the functions that tell of two values which is less, or that they are alike. Conditions: none beyond the tables of utf8. -/
import Derived.Test.YtcbdhdblchmofaaDoorVmR
import Derived.Test.YtcbdhdblchmofaaDoorValsC
namespace Go.Proofs.YtcbdhdblchmofaaDoor.Vm
open Go Go.RowKit Go.Proofs.YtcbdhdblchmofaaDoor.QOrderTurns Go.Proofs.YtcbdhdblchmofaaDoor.PureV Go.Proofs.YtcbdhdblchmofaaDoorW.PrintWords
set_option linter.unusedVariables false
attribute [local irreducible] Ops Dr Run
theorem fnPicked {g : Nat → Option (List PV)} {a m : Int} (h0 : 0 < m) (h1 : m < 9223372036854775808) : FnC (En Tryd.prog g) 13 [.pv (.int .i64 a), .pv (.int .i64 m)] (.pv (.int .i64 (a % m))) [] :=
  FnC.kit Tryd.func13 rfl rfl rfl rfl rfl fun w _ => (chirographkeep_picked.calls a m _ w (picked_emod a m h0 h1)).mono fun _ _ h => ⟨h.1, h.2.below⟩
theorem fnValOf {g : Nat → Option (List PV)} {kd a0 a b n bt : Int} {s t : ByteArray} (h : Ev (fun k => chirographkeep_ValOf.f k kd a0 a b s) (kd, n, bt, t)) : FnC (En Tryd.prog g) 24 [.pv (.int .i64 kd), rawA a0 a b s] (valA kd n bt t) [] := by
  obtain ⟨k, h⟩ := h
  exact FnC.kit Tryd.func24 rfl rfl rfl rfl rfl fun w _ => chirographkeep_ValOf.calls k kd a0 a b s kd n bt t w (h k (Nat.le_refl _))
section
variable {q n b : Int} {s : ByteArray} {q' n' b' : Int} {s' : ByteArray}
theorem fnBoth (g : GoodV q n b s) (g' : GoodV q' n' b' s') : FnC (En Tryd.prog gT) 47 [valA q n b s, valA q' n' b' s'] (.pv (.int .i64 0)) [] := by
  have hb : Ev (fun k => value_both.f k q n b s q' n' b' s') 0 := by
    refine Ev.congr (f := fun k => (value_Check.f k q n b s).bind fun t117 => (if t117 = 0 then ((value_Check.f k q' n' b' s').bind fun t118 => (some t118)) else (some t117))) (fun k => by simp only [value_both.f]) ?_
    refine Ev.bind (check_ev g) ?_
    simp only [if_true]
    exact Ev.bind (check_ev g') (Ev.now _)
  obtain ⟨k, h⟩ := hb
  exact FnC.kit Tryd.func47 rfl rfl rfl rfl rfl fun w hg => value_both.calls k q n b s q' n' b' s' _ w (tabsT hg) (h k (Nat.le_refl _))
theorem fnOrder {G : Nat → Option (List PV)} (g : GoodV q n b s) (g' : GoodV q' n' b' s') : FnC (En Tryd.prog G) 48 [valA q n b s, valA q' n' b' s'] (.pv (.int .i64 (cmp q n b s q' n' b' s'))) [] := by
  obtain ⟨k, h⟩ := order_ev g g'
  exact FnC.kit Tryd.func48 rfl rfl rfl rfl rfl fun w hg => value_order.calls k q n b s q' n' b' s' _ w (h k (Nat.le_refl _))
theorem good_kind (g : GoodV q n b s) : 0 ≤ q ∧ q ≤ 4 := by rcases g with h | h | h | h | h <;> omega
/-- Of two values of a kind: what is asked. -/
theorem fnAsked {f : FuncId} {p : Int → Bool} (hf : ∀ c, FnC (En Tryd.prog gT) f [.pv (.int .i64 c)] (.pv (.bool (p c))) []) (g : GoodV q n b s) (g' : GoodV q n' b' s') (h0 : 0 < q) :
    FnC (En Tryd.prog gT) 51 [valA q n b s, valA q n' b' s', .clo f []] (.tup [.pv (.int .i64 (if p (cmp q n b s q n' b' s') = true then 2 else 0)), .pv (.int .i64 0)]) [] := by
  have hE := EnOk gT
  have cb := fnBoth g g'
  have co := fnOrder (G := gT) g g'
  have cf := hf (cmp q n b s q n' b' s')
  obtain ⟨m, hm⟩ : ∃ m, cmp q n b s q n' b' s' = m := ⟨_, rfl⟩
  rw [hm] at co cf ⊢
  have hk := good_kind g
  clear g g' hm
  obtain ⟨B, hB⟩ : ∃ B, p m = B := ⟨_, rfl⟩
  rw [hB] at cf ⊢
  refine FnC.of Tryd.func51 rfl rfl rfl rfl ?_
  repeat (first | refine Run.seq ?_ | refine Run.skip ?_ | refine Run.block ?_)
  refine Run.region ?_
  refine O.box 3 rfl rfl rfl rfl ?_
  refine O.box 4 rfl rfl rfl rfl ?_
  refine O.assign rfl rfl ?_
  refine O.assign rfl rfl ?_
  refine O.nil ?_
  try refine Run.keep [0, 1, 2, 3, 4, 6, 7, 8, 13, 22, 27, 32] rfl rfl ?_
  repeat (first | refine Run.seq ?_ | refine Run.skip ?_ | refine Run.block ?_)
  refine Run.region ?_
  refine O.load hE T52 rfl rfl rfl rfl ?_
  refine O.load hE T52 rfl rfl rfl rfl ?_
  refine O.callE cb rfl rfl rfl rfl ?_
  refine O.assign rfl rfl ?_
  refine O.nil ?_
  try refine Run.keep [0, 1, 2, 3, 4, 6, 7, 8, 13, 22, 27, 32] rfl rfl ?_
  repeat (first | refine Run.seq ?_ | refine Run.skip ?_ | refine Run.block ?_)
  refine Run.region ?_
  refine O.move rfl rfl ?_
  first | refine O.cmp rfl rfl rfl (by first | exact decide_eq_true (by omega) | exact decide_eq_false (by omega)) rfl ?_ | refine O.cmp rfl rfl rfl rfl rfl ?_
  refine O.nil ?_
  try refine Run.keep [0, 1, 2, 3, 4, 6, 7, 8, 13, 22, 27, 32] rfl rfl ?_
  repeat (first | refine Run.seq ?_ | refine Run.skip ?_)
  first | refine Run.condT rfl rfl ?_ | refine Run.condF rfl rfl ?_ | refine Run.condT rfl (by assumption) ?_ | refine Run.condF rfl (by assumption) ?_
  repeat (first | refine Run.seq ?_ | refine Run.skip ?_ | refine Run.block ?_)
  refine Run.region ?_
  refine O.field hE L52 rfl rfl rfl rfl ?_
  refine O.load hE T3 rfl rfl rfl rfl ?_
  first | refine O.cmp rfl rfl rfl (by first | exact decide_eq_true (by omega) | exact decide_eq_false (by omega)) rfl ?_ | refine O.cmp rfl rfl rfl rfl rfl ?_
  refine O.move rfl rfl ?_
  first | (refine O.yes rfl rfl (by first | rfl | assumption) ?_; refine O.field hE L52 rfl rfl rfl rfl ?_) | refine O.no rfl rfl rfl rfl ?_
  first | (refine O.yes rfl rfl (by first | rfl | assumption) ?_; refine O.load hE T3 rfl rfl rfl rfl ?_) | refine O.no rfl rfl rfl rfl ?_
  first | (refine O.yes rfl rfl (by first | rfl | assumption) ?_; first | refine O.cmp rfl rfl rfl (by first | exact decide_eq_true (by omega) | exact decide_eq_false (by omega)) rfl ?_ | refine O.cmp rfl rfl rfl rfl rfl ?_) | refine O.no rfl rfl rfl rfl ?_
  refine O.pick rfl rfl rfl rfl rfl ?_
  refine O.nil ?_
  try refine Run.keep [0, 1, 2, 3, 4, 6, 7, 8, 13, 22, 27, 32] rfl rfl ?_
  repeat (first | refine Run.seq ?_ | refine Run.skip ?_)
  first | refine Run.condT rfl rfl ?_ | refine Run.condF rfl rfl ?_ | refine Run.condT rfl (by assumption) ?_ | refine Run.condF rfl (by assumption) ?_
  repeat (first | refine Run.seq ?_ | refine Run.skip ?_ | refine Run.block ?_)
  refine Run.region ?_
  refine O.field hE L52 rfl rfl rfl rfl ?_
  refine O.load hE T3 rfl rfl rfl rfl ?_
  refine O.field hE L52 rfl rfl rfl rfl ?_
  refine O.load hE T3 rfl rfl rfl rfl ?_
  first | refine O.cmp rfl rfl rfl (by first | exact decide_eq_true (by omega) | exact decide_eq_false (by omega)) rfl ?_ | refine O.cmp rfl rfl rfl rfl rfl ?_
  refine O.nil ?_
  try refine Run.keep [0, 1, 2, 3, 4, 6, 7, 8, 13, 22, 27, 32] rfl rfl ?_
  repeat (first | refine Run.seq ?_ | refine Run.skip ?_)
  first | refine Run.condT rfl rfl ?_ | refine Run.condF rfl rfl ?_ | refine Run.condT rfl (by assumption) ?_ | refine Run.condF rfl (by assumption) ?_
  repeat (first | refine Run.seq ?_ | refine Run.skip ?_ | refine Run.block ?_)
  refine Run.region ?_
  refine O.move rfl rfl ?_
  refine O.load hE T52 rfl rfl rfl rfl ?_
  refine O.load hE T52 rfl rfl rfl rfl ?_
  refine O.callE co rfl rfl rfl rfl ?_
  refine O.callV cf rfl rfl rfl rfl rfl ?_
  refine O.nil ?_
  try refine Run.keep [0, 1, 2, 3, 4, 6, 7, 8, 13, 22, 27, 32] rfl rfl ?_
  cases B
  ·
    repeat (first | refine Run.seq ?_ | refine Run.skip ?_)
    first | refine Run.condT rfl rfl ?_ | refine Run.condF rfl rfl ?_ | refine Run.condT rfl (by assumption) ?_ | refine Run.condF rfl (by assumption) ?_
    repeat (first | refine Run.seq ?_ | refine Run.skip ?_ | refine Run.block ?_)
    refine Run.region ?_
    refine O.assign rfl rfl ?_
    refine O.assign rfl rfl ?_
    refine O.nil ?_
    try refine Run.keep [0, 1, 2, 3, 4, 6, 7, 8, 13, 22, 27, 32] rfl rfl ?_
    (repeat (first | refine Run.seq ?_ | refine Run.skip ?_)); (try refine Run.ret ?_); first | exact Ends.flat hE (.inr rfl) rfl rfl (AVle.of_eq rfl) rfl | exact Ends.flat hE (.inl rfl) rfl rfl (AVle.of_eq rfl) rfl
  ·
    repeat (first | refine Run.seq ?_ | refine Run.skip ?_)
    first | refine Run.condT rfl rfl ?_ | refine Run.condF rfl rfl ?_ | refine Run.condT rfl (by assumption) ?_ | refine Run.condF rfl (by assumption) ?_
    repeat (first | refine Run.seq ?_ | refine Run.skip ?_ | refine Run.block ?_)
    refine Run.region ?_
    refine O.assign rfl rfl ?_
    refine O.assign rfl rfl ?_
    refine O.nil ?_
    try refine Run.keep [0, 1, 2, 3, 4, 6, 7, 8, 13, 22, 27, 32] rfl rfl ?_
    (repeat (first | refine Run.seq ?_ | refine Run.skip ?_)); (try refine Run.ret ?_); first | exact Ends.flat hE (.inr rfl) rfl rfl (AVle.of_eq rfl) rfl | exact Ends.flat hE (.inl rfl) rfl rfl (AVle.of_eq rfl) rfl
/-- Of a value and a null: it is not known. -/
theorem fnAskedNull {f : FuncId} (g : GoodV q n b s) (g' : GoodV 0 n' b' s') (h0 : 0 < q) :
    FnC (En Tryd.prog gT) 51 [valA q n b s, valA 0 n' b' s', .clo f []] (.tup [.pv (.int .i64 1), .pv (.int .i64 0)]) [] := by
  have hE := EnOk gT
  have cb := fnBoth g g'
  clear g g'
  refine FnC.of Tryd.func51 rfl rfl rfl rfl ?_
  repeat (first | refine Run.seq ?_ | refine Run.skip ?_ | refine Run.block ?_)
  refine Run.region ?_
  refine O.box 3 rfl rfl rfl rfl ?_
  refine O.box 4 rfl rfl rfl rfl ?_
  refine O.assign rfl rfl ?_
  refine O.assign rfl rfl ?_
  refine O.nil ?_
  try refine Run.keep [0, 1, 2, 3, 4, 6, 7, 8, 13, 22, 27, 32] rfl rfl ?_
  repeat (first | refine Run.seq ?_ | refine Run.skip ?_ | refine Run.block ?_)
  refine Run.region ?_
  refine O.load hE T52 rfl rfl rfl rfl ?_
  refine O.load hE T52 rfl rfl rfl rfl ?_
  refine O.callE cb rfl rfl rfl rfl ?_
  refine O.assign rfl rfl ?_
  refine O.nil ?_
  try refine Run.keep [0, 1, 2, 3, 4, 6, 7, 8, 13, 22, 27, 32] rfl rfl ?_
  repeat (first | refine Run.seq ?_ | refine Run.skip ?_ | refine Run.block ?_)
  refine Run.region ?_
  refine O.move rfl rfl ?_
  first | refine O.cmp rfl rfl rfl (by first | exact decide_eq_true (by omega) | exact decide_eq_false (by omega)) rfl ?_ | refine O.cmp rfl rfl rfl rfl rfl ?_
  refine O.nil ?_
  try refine Run.keep [0, 1, 2, 3, 4, 6, 7, 8, 13, 22, 27, 32] rfl rfl ?_
  repeat (first | refine Run.seq ?_ | refine Run.skip ?_)
  first | refine Run.condT rfl rfl ?_ | refine Run.condF rfl rfl ?_ | refine Run.condT rfl (by assumption) ?_ | refine Run.condF rfl (by assumption) ?_
  repeat (first | refine Run.seq ?_ | refine Run.skip ?_ | refine Run.block ?_)
  refine Run.region ?_
  refine O.field hE L52 rfl rfl rfl rfl ?_
  refine O.load hE T3 rfl rfl rfl rfl ?_
  first | refine O.cmp rfl rfl rfl (by first | exact decide_eq_true (by omega) | exact decide_eq_false (by omega)) rfl ?_ | refine O.cmp rfl rfl rfl rfl rfl ?_
  refine O.move rfl rfl ?_
  first | (refine O.yes rfl rfl (by first | rfl | assumption) ?_; refine O.field hE L52 rfl rfl rfl rfl ?_) | refine O.no rfl rfl rfl rfl ?_
  first | (refine O.yes rfl rfl (by first | rfl | assumption) ?_; refine O.load hE T3 rfl rfl rfl rfl ?_) | refine O.no rfl rfl rfl rfl ?_
  first | (refine O.yes rfl rfl (by first | rfl | assumption) ?_; first | refine O.cmp rfl rfl rfl (by first | exact decide_eq_true (by omega) | exact decide_eq_false (by omega)) rfl ?_ | refine O.cmp rfl rfl rfl rfl rfl ?_) | refine O.no rfl rfl rfl rfl ?_
  refine O.pick rfl rfl rfl rfl rfl ?_
  refine O.nil ?_
  try refine Run.keep [0, 1, 2, 3, 4, 6, 7, 8, 13, 22, 27, 32] rfl rfl ?_
  repeat (first | refine Run.seq ?_ | refine Run.skip ?_)
  first | refine Run.condT rfl rfl ?_ | refine Run.condF rfl rfl ?_ | refine Run.condT rfl (by assumption) ?_ | refine Run.condF rfl (by assumption) ?_
  repeat (first | refine Run.seq ?_ | refine Run.skip ?_ | refine Run.block ?_)
  refine Run.region ?_
  refine O.assign rfl rfl ?_
  refine O.assign rfl rfl ?_
  refine O.nil ?_
  try refine Run.keep [0, 1, 2, 3, 4, 6, 7, 8, 13, 22, 27, 32] rfl rfl ?_
  (repeat (first | refine Run.seq ?_ | refine Run.skip ?_)); (try refine Run.ret ?_); first | exact Ends.flat hE (.inr rfl) rfl rfl (AVle.of_eq rfl) rfl | exact Ends.flat hE (.inl rfl) rfl rfl (AVle.of_eq rfl) rfl
theorem fnLess1 {g : Nat → Option (List PV)} (c : Int) : FnC (En Tryd.prog g) 52 [.pv (.int .i64 c)] (.pv (.bool (decide (c < 0)))) [] := by
  have hE := EnOk g
  refine FnC.of Tryd.func52 rfl rfl rfl rfl ?_
  repeat (first | refine Run.seq ?_ | refine Run.skip ?_ | refine Run.block ?_)
  refine Run.region ?_
  refine O.assign rfl rfl ?_
  refine O.nil ?_
  try refine Run.keep [0, 2] rfl rfl ?_
  repeat (first | refine Run.seq ?_ | refine Run.skip ?_ | refine Run.block ?_)
  refine Run.region ?_
  refine O.move rfl rfl ?_
  first | refine O.cmp rfl rfl rfl (by first | exact decide_eq_true (by omega) | exact decide_eq_false (by omega)) rfl ?_ | refine O.cmp rfl rfl rfl rfl rfl ?_
  refine O.assign rfl rfl ?_
  refine O.nil ?_
  try refine Run.keep [0, 2] rfl rfl ?_
  (repeat (first | refine Run.seq ?_ | refine Run.skip ?_)); (try refine Run.ret ?_); first | exact Ends.flat hE (.inr rfl) rfl rfl (AVle.of_eq rfl) rfl | exact Ends.flat hE (.inl rfl) rfl rfl (AVle.of_eq rfl) rfl
theorem fnEqual1 {g : Nat → Option (List PV)} (c : Int) : FnC (En Tryd.prog g) 53 [.pv (.int .i64 c)] (.pv (.bool (decide (c = 0)))) [] := by
  have hE := EnOk g
  refine FnC.of Tryd.func53 rfl rfl rfl rfl ?_
  repeat (first | refine Run.seq ?_ | refine Run.skip ?_ | refine Run.block ?_)
  refine Run.region ?_
  refine O.assign rfl rfl ?_
  refine O.nil ?_
  try refine Run.keep [0, 2] rfl rfl ?_
  repeat (first | refine Run.seq ?_ | refine Run.skip ?_ | refine Run.block ?_)
  refine Run.region ?_
  refine O.move rfl rfl ?_
  first | refine O.cmp rfl rfl rfl (by first | exact decide_eq_true (by omega) | exact decide_eq_false (by omega)) rfl ?_ | refine O.cmp rfl rfl rfl rfl rfl ?_
  refine O.assign rfl rfl ?_
  refine O.nil ?_
  try refine Run.keep [0, 2] rfl rfl ?_
  (repeat (first | refine Run.seq ?_ | refine Run.skip ?_)); (try refine Run.ret ?_); first | exact Ends.flat hE (.inr rfl) rfl rfl (AVle.of_eq rfl) rfl | exact Ends.flat hE (.inl rfl) rfl rfl (AVle.of_eq rfl) rfl
theorem fnLess (g : GoodV q n b s) (g' : GoodV q n' b' s') (h0 : 0 < q) : FnC (En Tryd.prog gT) 25 [valA q n b s, valA q n' b' s'] (.tup [.pv (.int .i64 (if cmp q n b s q n' b' s' < 0 then 2 else 0)), .pv (.int .i64 0)]) [] := by
  have hE := EnOk gT
  have ca := fnAsked fnLess1 g g' h0
  obtain ⟨R, hR⟩ : ∃ R : Int, (if decide (cmp q n b s q n' b' s' < 0) = true then 2 else 0) = R := ⟨_, rfl⟩
  have e : (if cmp q n b s q n' b' s' < 0 then (2 : Int) else 0) = R := by rw [← hR]; simp only [decide_eq_true_eq]
  rw [hR] at ca
  rw [e]
  clear e hR g g'
  refine FnC.of Tryd.func25 rfl rfl rfl rfl ?_
  repeat (first | refine Run.seq ?_ | refine Run.skip ?_ | refine Run.block ?_)
  refine Run.region ?_
  refine O.box 2 rfl rfl rfl rfl ?_
  refine O.box 3 rfl rfl rfl rfl ?_
  refine O.assign rfl rfl ?_
  refine O.assign rfl rfl ?_
  refine O.nil ?_
  try refine Run.keep [0, 1, 2, 3, 4, 5] rfl rfl ?_
  repeat (first | refine Run.seq ?_ | refine Run.skip ?_ | refine Run.block ?_)
  refine Run.region ?_
  refine O.load hE T52 rfl rfl rfl rfl ?_
  refine O.load hE T52 rfl rfl rfl rfl ?_
  refine O.callE ca rfl rfl rfl rfl ?_
  refine O.extract rfl rfl rfl ?_
  refine O.extract rfl rfl rfl ?_
  refine O.assign rfl rfl ?_
  refine O.assign rfl rfl ?_
  refine O.nil ?_
  try refine Run.keep [0, 1, 2, 3, 4, 5] rfl rfl ?_
  (repeat (first | refine Run.seq ?_ | refine Run.skip ?_)); (try refine Run.ret ?_); first | exact Ends.flat hE (.inr rfl) rfl rfl (AVle.of_eq rfl) rfl | exact Ends.flat hE (.inl rfl) rfl rfl (AVle.of_eq rfl) rfl
theorem fnEqual (g : GoodV q n b s) (g' : GoodV q n' b' s') (h0 : 0 < q) : FnC (En Tryd.prog gT) 26 [valA q n b s, valA q n' b' s'] (.tup [.pv (.int .i64 (if cmp q n b s q n' b' s' = 0 then 2 else 0)), .pv (.int .i64 0)]) [] := by
  have hE := EnOk gT
  have ca := fnAsked fnEqual1 g g' h0
  obtain ⟨R, hR⟩ : ∃ R : Int, (if decide (cmp q n b s q n' b' s' = 0) = true then 2 else 0) = R := ⟨_, rfl⟩
  have e : (if cmp q n b s q n' b' s' = 0 then (2 : Int) else 0) = R := by rw [← hR]; simp only [decide_eq_true_eq]
  rw [hR] at ca
  rw [e]
  clear e hR g g'
  refine FnC.of Tryd.func26 rfl rfl rfl rfl ?_
  repeat (first | refine Run.seq ?_ | refine Run.skip ?_ | refine Run.block ?_)
  refine Run.region ?_
  refine O.box 2 rfl rfl rfl rfl ?_
  refine O.box 3 rfl rfl rfl rfl ?_
  refine O.assign rfl rfl ?_
  refine O.assign rfl rfl ?_
  refine O.nil ?_
  try refine Run.keep [0, 1, 2, 3, 4, 5] rfl rfl ?_
  repeat (first | refine Run.seq ?_ | refine Run.skip ?_ | refine Run.block ?_)
  refine Run.region ?_
  refine O.load hE T52 rfl rfl rfl rfl ?_
  refine O.load hE T52 rfl rfl rfl rfl ?_
  refine O.callE ca rfl rfl rfl rfl ?_
  refine O.extract rfl rfl rfl ?_
  refine O.extract rfl rfl rfl ?_
  refine O.assign rfl rfl ?_
  refine O.assign rfl rfl ?_
  refine O.nil ?_
  try refine Run.keep [0, 1, 2, 3, 4, 5] rfl rfl ?_
  (repeat (first | refine Run.seq ?_ | refine Run.skip ?_)); (try refine Run.ret ?_); first | exact Ends.flat hE (.inr rfl) rfl rfl (AVle.of_eq rfl) rfl | exact Ends.flat hE (.inl rfl) rfl rfl (AVle.of_eq rfl) rfl
theorem fnEqualNull (g : GoodV q n b s) (g' : GoodV 0 n' b' s') (h0 : 0 < q) : FnC (En Tryd.prog gT) 26 [valA q n b s, valA 0 n' b' s'] (.tup [.pv (.int .i64 1), .pv (.int .i64 0)]) [] := by
  have hE := EnOk gT
  have ca := fnAskedNull (f := 53) g g' h0
  clear g g'
  refine FnC.of Tryd.func26 rfl rfl rfl rfl ?_
  repeat (first | refine Run.seq ?_ | refine Run.skip ?_ | refine Run.block ?_)
  refine Run.region ?_
  refine O.box 2 rfl rfl rfl rfl ?_
  refine O.box 3 rfl rfl rfl rfl ?_
  refine O.assign rfl rfl ?_
  refine O.assign rfl rfl ?_
  refine O.nil ?_
  try refine Run.keep [0, 1, 2, 3, 4, 5] rfl rfl ?_
  repeat (first | refine Run.seq ?_ | refine Run.skip ?_ | refine Run.block ?_)
  refine Run.region ?_
  refine O.load hE T52 rfl rfl rfl rfl ?_
  refine O.load hE T52 rfl rfl rfl rfl ?_
  refine O.callE ca rfl rfl rfl rfl ?_
  refine O.extract rfl rfl rfl ?_
  refine O.extract rfl rfl rfl ?_
  refine O.assign rfl rfl ?_
  refine O.assign rfl rfl ?_
  refine O.nil ?_
  try refine Run.keep [0, 1, 2, 3, 4, 5] rfl rfl ?_
  (repeat (first | refine Run.seq ?_ | refine Run.skip ?_)); (try refine Run.ret ?_); first | exact Ends.flat hE (.inr rfl) rfl rfl (AVle.of_eq rfl) rfl | exact Ends.flat hE (.inl rfl) rfl rfl (AVle.of_eq rfl) rfl
end
end Go.Proofs.YtcbdhdblchmofaaDoor.Vm
