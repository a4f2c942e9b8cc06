/- TakeRing: its walk. Conditions: none. -/
import Derived.Test.YtokjeodlcilfpaaRgtD
namespace Go.Proofs.Ytokjeodlcilfpaa.Vm
open Go Go.RowKit
set_option linter.unusedVariables false
set_option linter.unusedSimpArgs false
attribute [local irreducible] Ops Dr Run
/-- What is given one after the other. -/
def rg (o w : Int) (more : Bool) : Bool :=
  let u := o / 4
  let p := (u + 1) % 3
  let q := (u + 2) % 3
  let x1 : Gr := ⟨u, p, o, w, true⟩
  let x2 : Gr := ⟨p, q, o, w, true⟩
  let x3 : Gr := ⟨q, p, o, w, true⟩
  let x4 : Gr := ⟨u, q, o, w, true⟩
  let xt : Gr := ⟨u, p, o, w, false⟩
  let l1 := giveP [] x1
  let l2 := giveP l1 x2
  let l3 := giveP l2 x3
  let l4 := if more then giveP l3 x4 else l3
  let lf := l4.filter fun y => !samePl y xt
  let lt := heldP lf
  (okL [] && okL l1 && okL l2 && okL l3 && okL l4 && okL lt) && (gOk x1 && gOk x2 && gOk x3 && gOk x4 && gOk xt) && (mayP [] u o w && mayP l1 p o w && mayP l2 q o w && mayP l3 u o w)
    && ((l1.all fun y => !samePl y x2) && (l2.all fun y => !samePl y x3) && (l3.all fun y => !samePl y x4)) && (!decide (lf.length = l4.length) && decide (3 ≤ l4.length)) && ((hasP lt p o w == more) && (hasP lt q o w == more))
theorem rg_all : ∀ (o : Fin 12) (w : Fin 2) (more : Bool), rg ((o.val : Nat) : Int) (1 + ((w.val : Nat) : Int)) more = true := by decide +kernel
variable {g : Nat → Option (List PV)}
theorem giveNil {l : List Gr} {f t o w : Int} (h : LOk l) (h0 : l = []) (hx : gOk ⟨f, t, o, w, true⟩ = true) (hm : mayP l f o w = true) (hs : ∀ y ∈ l, samePl y ⟨f, t, o, w, true⟩ = false) :
    FnL (EnL Try.prog g [12, 7, 8, 13]) 12 [.pv (.int .i64 f), .pv (.int .i64 t), .ptr 12 0, .ptr 7 0, .ptr 8 0, .ptr 13 0] [(12, .var [.pv .nil]), (7, .var [.pv (.int .i64 o)]), (8, .var [.pv (.int .i64 w)]), (13, .var [.pv (.bool true)])] (.tup []) [(12, .var [.pv (.lst 5 ((giveP l ⟨f, t, o, w, true⟩).map grE))]), (7, .var [.pv (.int .i64 o)]), (8, .var [.pv (.int .i64 w)]), (13, .var [.pv (.bool true)])] := by
  have hE := EnLOk g [12, 7, 8, 13]
  have c1 := (fnGive (g := g) h hx hm hs).lent [12, 7, 8, 13]
  dsimp only [grA] at c1
  subst h0
  generalize giveP [] ⟨f, t, o, w, true⟩ = Q at *
  refine FnL.of Try.func12 rfl rfl rfl rfl ?_
  repeat (first | refine Run.seq ?_ | refine Run.skip ?_ | refine Run.block ?_)
  refine Run.region ?_
  first | refine O.loadS hE T42 rfl rfl rfl (by rfl) rfl ?_ | refine O.loadE hE T42 rfl rfl (by rfl) rfl ?_ | refine O.load hE T42 rfl rfl rfl rfl ?_
  refine O.move rfl rfl ?_
  refine O.move rfl rfl ?_
  first | refine O.loadS hE T3 rfl rfl rfl (by rfl) rfl ?_ | refine O.loadE hE T3 rfl rfl (by rfl) rfl ?_ | refine O.load hE T3 rfl rfl rfl rfl ?_
  first | refine O.loadS hE T3 rfl rfl rfl (by rfl) rfl ?_ | refine O.loadE hE T3 rfl rfl (by rfl) rfl ?_ | refine O.load hE T3 rfl rfl rfl rfl ?_
  refine O.build hE T46 L46 rfl rfl rfl ?_
  refine O.callF c1 (.cons (AVle.nil 5) (.cons (AVle.of_eq rfl) .nil)) rfl rfl rfl ?_
  refine O.move rfl rfl ?_
  refine O.extract rfl rfl rfl ?_
  refine O.extract rfl rfl rfl ?_
  refine O.assign rfl rfl ?_
  refine O.assign rfl rfl ?_
  refine O.nil ?_
  try refine Run.keep [0, 1, 2, 3, 4, 5, 8, 9] rfl rfl ?_
  repeat (first | refine Run.seq ?_ | refine Run.skip ?_ | refine Run.block ?_)
  refine Run.region ?_
  refine O.move rfl rfl ?_
  first | refine O.loadS hE T4 rfl rfl rfl (by rfl) rfl ?_ | refine O.loadE hE T4 rfl rfl (by rfl) rfl ?_ | refine O.load hE T4 rfl rfl rfl rfl ?_
  refine O.move rfl rfl ?_
  first | (refine O.yes rfl rfl (by first | rfl | assumption) ?_; refine O.move rfl rfl ?_) | refine O.no rfl rfl rfl rfl ?_
  first | (refine O.yes rfl rfl (by first | rfl | assumption) ?_; first | refine O.cmp rfl rfl rfl (by first | exact decide_eq_true (by omega) | exact decide_eq_false (by omega)) rfl ?_ | refine O.cmp rfl rfl rfl rfl rfl ?_) | refine O.no rfl rfl rfl rfl ?_
  refine O.pick rfl rfl rfl rfl rfl ?_
  refine O.store hE T42 rfl rfl rfl rfl rfl rfl ?_
  refine O.store hE T4 rfl rfl rfl rfl rfl rfl ?_
  refine O.nil ?_
  try refine Run.keep [0, 1, 2, 3, 4, 5, 8, 9] rfl rfl ?_
  exact Ends.of hE (.inl rfl) rfl rfl (SLe.drop (by repeat (first | exact TmIn.nil | refine TmIn.cons rfl ?_)) (by repeat (first | exact BxIn.nil | refine BxIn.cons rfl ?_)) rfl rfl)
theorem giveMore {l : List Gr} {f t o w : Int} (h : LOk l) (hx : gOk ⟨f, t, o, w, true⟩ = true) (hm : mayP l f o w = true) (hs : ∀ y ∈ l, samePl y ⟨f, t, o, w, true⟩ = false) :
    FnL (EnL Try.prog g [12, 7, 8, 13]) 12 [.pv (.int .i64 f), .pv (.int .i64 t), .ptr 12 0, .ptr 7 0, .ptr 8 0, .ptr 13 0] [(12, .var [.pv (.lst 5 (l.map grE))]), (7, .var [.pv (.int .i64 o)]), (8, .var [.pv (.int .i64 w)]), (13, .var [.pv (.bool true)])] (.tup []) [(12, .var [.pv (.lst 5 ((giveP l ⟨f, t, o, w, true⟩).map grE))]), (7, .var [.pv (.int .i64 o)]), (8, .var [.pv (.int .i64 w)]), (13, .var [.pv (.bool true)])] := by
  have hE := EnLOk g [12, 7, 8, 13]
  have c1 := (fnGive (g := g) h hx hm hs).lent [12, 7, 8, 13]
  dsimp only [grA] at c1
  generalize giveP l ⟨f, t, o, w, true⟩ = Q at *
  refine FnL.of Try.func12 rfl rfl rfl rfl ?_
  repeat (first | refine Run.seq ?_ | refine Run.skip ?_ | refine Run.block ?_)
  refine Run.region ?_
  first | refine O.loadS hE T42 rfl rfl rfl (by rfl) rfl ?_ | refine O.loadE hE T42 rfl rfl (by rfl) rfl ?_ | refine O.load hE T42 rfl rfl rfl rfl ?_
  refine O.move rfl rfl ?_
  refine O.move rfl rfl ?_
  first | refine O.loadS hE T3 rfl rfl rfl (by rfl) rfl ?_ | refine O.loadE hE T3 rfl rfl (by rfl) rfl ?_ | refine O.load hE T3 rfl rfl rfl rfl ?_
  first | refine O.loadS hE T3 rfl rfl rfl (by rfl) rfl ?_ | refine O.loadE hE T3 rfl rfl (by rfl) rfl ?_ | refine O.load hE T3 rfl rfl rfl rfl ?_
  refine O.build hE T46 L46 rfl rfl rfl ?_
  refine O.callF c1 (.cons (AVle.of_eq rfl) (.cons (AVle.of_eq rfl) .nil)) rfl rfl rfl ?_
  refine O.move rfl rfl ?_
  refine O.extract rfl rfl rfl ?_
  refine O.extract rfl rfl rfl ?_
  refine O.assign rfl rfl ?_
  refine O.assign rfl rfl ?_
  refine O.nil ?_
  try refine Run.keep [0, 1, 2, 3, 4, 5, 8, 9] rfl rfl ?_
  repeat (first | refine Run.seq ?_ | refine Run.skip ?_ | refine Run.block ?_)
  refine Run.region ?_
  refine O.move rfl rfl ?_
  first | refine O.loadS hE T4 rfl rfl rfl (by rfl) rfl ?_ | refine O.loadE hE T4 rfl rfl (by rfl) rfl ?_ | refine O.load hE T4 rfl rfl rfl rfl ?_
  refine O.move rfl rfl ?_
  first | (refine O.yes rfl rfl (by first | rfl | assumption) ?_; refine O.move rfl rfl ?_) | refine O.no rfl rfl rfl rfl ?_
  first | (refine O.yes rfl rfl (by first | rfl | assumption) ?_; first | refine O.cmp rfl rfl rfl (by first | exact decide_eq_true (by omega) | exact decide_eq_false (by omega)) rfl ?_ | refine O.cmp rfl rfl rfl rfl rfl ?_) | refine O.no rfl rfl rfl rfl ?_
  refine O.pick rfl rfl rfl rfl rfl ?_
  refine O.store hE T42 rfl rfl rfl rfl rfl rfl ?_
  refine O.store hE T4 rfl rfl rfl rfl rfl rfl ?_
  refine O.nil ?_
  try refine Run.keep [0, 1, 2, 3, 4, 5, 8, 9] rfl rfl ?_
  exact Ends.of hE (.inl rfl) rfl rfl (SLe.drop (by repeat (first | exact TmIn.nil | refine TmIn.cons rfl ?_)) (by repeat (first | exact BxIn.nil | refine BxIn.cons rfl ?_)) rfl rfl)

set_option maxHeartbeats 4000000 in
theorem fnTakeRing (object which : Int) (more : Bool) : FnC (En Try.prog g) 5 [.pv (.int .i64 object), .pv (.int .i64 which), .pv (.bool more)] (.pv (.bool true)) [] := by
  have hE := EnOk g
  have c1 := fnPick (g := g) (a := object) (m := 12) (by omega) (by omega)
  have c2 := fnPick (g := g) (a := which) (m := 2) (by omega) (by omega)
  obtain ⟨o, ho, ho0, ho1⟩ : ∃ o : Int, object % 12 = o ∧ 0 ≤ o ∧ o < 12 := ⟨_, rfl, by omega, by omega⟩
  obtain ⟨w, hw, hw1⟩ : ∃ w : Int, 1 + which % 2 = w ∧ (w = 1 ∨ w = 2) := ⟨_, rfl, by omega⟩
  have hall := rg_all ⟨o.toNat, by omega⟩ ⟨(which % 2).toNat, by omega⟩ more
  rw [show (((⟨o.toNat, by omega⟩ : Fin 12).val : Nat) : Int) = o by show ((o.toNat : Nat) : Int) = o; omega, show 1 + (((⟨(which % 2).toNat, by omega⟩ : Fin 2).val : Nat) : Int) = w by show 1 + (((which % 2).toNat : Nat) : Int) = w; omega] at hall
  rw [ho] at c1
  have hwp : IntKind.i64.wrap (1 + which % 2) = w := by rw [hw]; exact wrap_i64 (by omega) (by omega)
  obtain ⟨u, hu⟩ : ∃ u, o / 4 = u := ⟨_, rfl⟩
  obtain ⟨p, hp⟩ : ∃ p, (u + 1) % 3 = p := ⟨_, rfl⟩
  obtain ⟨q, hq⟩ : ∃ q, (u + 2) % 3 = q := ⟨_, rfl⟩
  unfold rg at hall
  dsimp only at hall
  rw [hu, hp, hq] at hall
  obtain ⟨l1, e1⟩ : ∃ l, giveP [] ⟨u, p, o, w, true⟩ = l := ⟨_, rfl⟩
  rw [e1] at hall
  obtain ⟨l2, e2⟩ : ∃ l, giveP l1 ⟨p, q, o, w, true⟩ = l := ⟨_, rfl⟩
  rw [e2] at hall
  obtain ⟨l3, e3⟩ : ∃ l, giveP l2 ⟨q, p, o, w, true⟩ = l := ⟨_, rfl⟩
  rw [e3] at hall
  obtain ⟨l4, e4⟩ : ∃ l, giveP l3 ⟨u, q, o, w, true⟩ = l := ⟨_, rfl⟩
  rw [e4] at hall
  simp only [Bool.and_eq_true] at hall
  obtain ⟨⟨⟨⟨⟨⟨⟨⟨⟨⟨k0, k1⟩, k2⟩, k3⟩, k4⟩, kt⟩, ⟨⟨⟨g1, g2⟩, g3⟩, g4⟩, gt⟩, ⟨⟨m1, m2⟩, m3⟩, m4⟩, ⟨s2, s3⟩, s4⟩, n1, n2⟩, a1, a2⟩ := hall
  have hns : ∀ (l : List Gr) (x : Gr), (l.all fun y => !samePl y x) = true → ∀ y ∈ l, samePl y x = false := fun l x h y hy => by
    have := List.all_eq_true.1 h y hy
    simpa using this
  have d1 := giveNil (g := g) (f := u) (t := p) (o := o) (w := w) (okL_to k0) rfl g1 m1 (fun y hy => by simp at hy)
  have d2 := giveMore (g := g) (f := p) (t := q) (o := o) (w := w) (okL_to k1) g2 m2 (hns _ _ s2)
  have d3 := giveMore (g := g) (f := q) (t := p) (o := o) (w := w) (okL_to k2) g3 m3 (hns _ _ s3)
  have d4 := giveMore (g := g) (f := u) (t := q) (o := o) (w := w) (okL_to k3) g4 m4 (hns _ _ s4)
  rw [e1] at d1
  rw [e2] at d2
  rw [e3] at d3
  rw [e4] at d4
  have o4 := okL_to k4
  have ot := okL_to kt
  have ct := fnTake (g := g) o4 gt (by simpa using n1)
  have hpu : 0 ≤ p ∧ p < 3 := by omega
  have hqu : 0 ≤ q ∧ q < 3 := by omega
  have cp := fnHas (g := g) (u := p) (o := o) (r := w) ho0 ho1 (by have := ot.n; omega) (fnAskedR ot hpu ⟨ho0, ho1⟩ hw1)
  have cq := fnHas (g := g) (u := q) (o := o) (r := w) ho0 ho1 (by have := ot.n; omega) (fnAskedR ot hqu ⟨ho0, ho1⟩ hw1)
  rw [eq_of_beq a1] at cp
  rw [eq_of_beq a2] at cq
  have n3 : 3 ≤ _ := of_decide_eq_true n2
  clear k0 k1 k2 k3 k4 kt g1 g2 g3 g4 gt m1 m2 m3 m4 s2 s3 s4 a1 a2 o4 ot n1 n2 hns ho hw
  dsimp only [grA] at ct
  generalize heldP _ = Z at *
  have hu' : IntKind.i64.wrap (o / 4) = u := by rw [hu]; exact wrap_i64 (by omega) (by omega)
  cases more with
  | true =>
    simp only [if_true] at *
    refine FnC.of Try.func5 rfl rfl rfl rfl ?_
    repeat (first | refine Run.seq ?_ | refine Run.skip ?_ | refine Run.block ?_)
    refine Run.region ?_
    refine O.assign rfl rfl ?_
    refine O.nil ?_
    try refine Run.keep [0, 1, 2, 6, 7, 8, 9, 10, 11, 12, 13, 14, 15, 16, 17, 18, 19, 20, 47] rfl rfl ?_
    repeat (first | refine Run.seq ?_ | refine Run.skip ?_ | refine Run.block ?_)
    refine Run.region ?_
    refine O.move rfl rfl ?_
    refine O.callE c1 rfl (by first | rfl | simp [closed, men3, mens2_app, mens2_ints, mens2, men2, men1, mens1_app, mens1_ints, mens1]) (by first | rfl | simp [d2, ds1_ints, ds1_app, ds1, d1, ds0_app, ds0_ints, ds0, d0]) rfl ?_
    refine O.move rfl rfl ?_
    refine O.callE c2 rfl (by first | rfl | simp [closed, men3, mens2_app, mens2_ints, mens2, men2, men1, mens1_app, mens1_ints, mens1]) (by first | rfl | simp [d2, ds1_ints, ds1_app, ds1, d1, ds0_app, ds0_ints, ds0, d0]) rfl ?_
    refine O.ar (q := w) rfl rfl rfl hwp rfl ?_
    refine O.alloc hE 7 T3 rfl rfl rfl ?_
    refine O.alloc hE 8 T3 rfl rfl rfl ?_
    refine O.store hE T3 rfl rfl rfl rfl rfl rfl ?_
    refine O.store hE T3 rfl rfl rfl rfl rfl rfl ?_
    refine O.nil ?_
    try refine Run.keep [0, 1, 2, 6, 7, 8, 9, 10, 11, 12, 13, 14, 15, 16, 17, 18, 19, 20, 47] rfl rfl ?_
    repeat (first | refine Run.seq ?_ | refine Run.skip ?_ | refine Run.block ?_)
    refine Run.region ?_
    first | refine O.loadS hE T3 rfl rfl rfl (by rfl) rfl ?_ | refine O.loadE hE T3 rfl rfl (by rfl) rfl ?_ | refine O.load hE T3 rfl rfl rfl rfl ?_
    refine O.quoE (q := u) rfl rfl ho0 (by omega) hu' rfl ?_
    refine O.assign rfl rfl ?_
    refine O.nil ?_
    try refine Run.keep [0, 1, 2, 6, 7, 8, 9, 10, 11, 12, 13, 14, 15, 16, 17, 18, 19, 20, 47] rfl rfl ?_
    repeat (first | refine Run.seq ?_ | refine Run.skip ?_ | refine Run.block ?_)
    refine Run.region ?_
    refine O.move rfl rfl ?_
    refine O.ar (q := u + 1) rfl rfl rfl (wrap_i64 (by omega) (by omega)) rfl ?_
    refine O.remE rfl rfl (by omega) (by omega) rfl ?_; rw [hp]
    refine O.move rfl rfl ?_
    refine O.ar (q := u + 2) rfl rfl rfl (wrap_i64 (by omega) (by omega)) rfl ?_
    refine O.remE rfl rfl (by omega) (by omega) rfl ?_; rw [hq]
    refine O.assign rfl rfl ?_
    refine O.assign rfl rfl ?_
    refine O.nil ?_
    try refine Run.keep [0, 1, 2, 6, 7, 8, 9, 10, 11, 12, 13, 14, 15, 16, 17, 18, 19, 20, 47] rfl rfl ?_
    repeat (first | refine Run.seq ?_ | refine Run.skip ?_ | refine Run.block ?_)
    refine Run.region ?_
    refine O.alloc hE 12 T42 rfl rfl rfl ?_
    refine O.nil ?_
    try refine Run.keep [0, 1, 2, 6, 7, 8, 9, 10, 11, 12, 13, 14, 15, 16, 17, 18, 19, 20, 47] rfl rfl ?_
    repeat (first | refine Run.seq ?_ | refine Run.skip ?_ | refine Run.block ?_)
    refine Run.region ?_
    refine O.alloc hE 13 T4 rfl rfl rfl ?_
    refine O.store hE T4 rfl rfl rfl rfl rfl rfl ?_
    refine O.nil ?_
    try refine Run.keep [0, 1, 2, 6, 7, 8, 9, 10, 11, 12, 13, 14, 15, 16, 17, 18, 19, 20, 47] rfl rfl ?_
    repeat (first | refine Run.seq ?_ | refine Run.skip ?_ | refine Run.block ?_)
    refine Run.region ?_
    refine O.makeFunc rfl rfl ?_
    refine O.assign rfl rfl ?_
    refine O.nil ?_
    try refine Run.keep [0, 1, 2, 6, 7, 8, 9, 10, 11, 12, 13, 14, 15, 16, 17, 18, 19, 20, 47] rfl rfl ?_
    repeat (first | refine Run.seq ?_ | refine Run.skip ?_ | refine Run.block ?_)
    refine Run.region ?_
    refine O.move rfl rfl ?_
    refine O.move rfl rfl ?_
    refine O.move rfl rfl ?_
    refine O.lend (ln := [12, 7, 8, 13]) d1 rfl rfl rfl (.inl rfl) (by repeat (first | exact BxIn.nil | refine BxIn.cons rfl ?_)) rfl rfl rfl rfl rfl rfl rfl rfl rfl rfl ?_
    refine O.nil ?_
    try refine Run.keep [0, 1, 2, 6, 7, 8, 9, 10, 11, 12, 13, 14, 15, 16, 17, 18, 19, 20, 47] rfl rfl ?_
    repeat (first | refine Run.seq ?_ | refine Run.skip ?_ | refine Run.block ?_)
    refine Run.region ?_
    refine O.move rfl rfl ?_
    refine O.move rfl rfl ?_
    refine O.move rfl rfl ?_
    refine O.lend (ln := [12, 7, 8, 13]) d2 rfl rfl rfl (.inl rfl) (by repeat (first | exact BxIn.nil | refine BxIn.cons rfl ?_)) rfl rfl rfl rfl rfl rfl rfl rfl rfl rfl ?_
    refine O.nil ?_
    try refine Run.keep [0, 1, 2, 6, 7, 8, 9, 10, 11, 12, 13, 14, 15, 16, 17, 18, 19, 20, 47] rfl rfl ?_
    repeat (first | refine Run.seq ?_ | refine Run.skip ?_ | refine Run.block ?_)
    refine Run.region ?_
    refine O.move rfl rfl ?_
    refine O.move rfl rfl ?_
    refine O.move rfl rfl ?_
    refine O.lend (ln := [12, 7, 8, 13]) d3 rfl rfl rfl (.inl rfl) (by repeat (first | exact BxIn.nil | refine BxIn.cons rfl ?_)) rfl rfl rfl rfl rfl rfl rfl rfl rfl rfl ?_
    refine O.nil ?_
    try refine Run.keep [0, 1, 2, 6, 7, 8, 9, 10, 11, 12, 13, 14, 15, 16, 17, 18, 19, 20, 47] rfl rfl ?_
    repeat (first | refine Run.seq ?_ | refine Run.skip ?_ | refine Run.block ?_)
    refine Run.region ?_
    refine O.move rfl rfl ?_
    refine O.nil ?_
    try refine Run.keep [0, 1, 2, 6, 7, 8, 9, 10, 11, 12, 13, 14, 15, 16, 17, 18, 19, 20, 47] rfl rfl ?_
    repeat (first | refine Run.seq ?_ | refine Run.skip ?_)
    first | refine Run.condT rfl rfl ?_ | refine Run.condF rfl rfl ?_ | refine Run.condT rfl (by assumption) ?_ | refine Run.condF rfl (by assumption) ?_
    repeat (first | refine Run.seq ?_ | refine Run.skip ?_ | refine Run.block ?_)
    refine Run.region ?_
    refine O.move rfl rfl ?_
    refine O.move rfl rfl ?_
    refine O.move rfl rfl ?_
    refine O.lend (ln := [12, 7, 8, 13]) d4 rfl rfl rfl (.inl rfl) (by repeat (first | exact BxIn.nil | refine BxIn.cons rfl ?_)) rfl rfl rfl rfl rfl rfl rfl rfl rfl rfl ?_
    refine O.nil ?_
    try refine Run.keep [0, 1, 2, 6, 7, 8, 9, 10, 11, 12, 13, 14, 15, 16, 17, 18, 19, 20, 47] rfl rfl ?_
    have hXm : (((l4.map grE).length : Nat) : Int) = l4.length := by simp
    repeat (first | refine Run.seq ?_ | refine Run.skip ?_ | refine Run.block ?_)
    refine Run.region ?_
    first | refine O.loadS hE T42 rfl rfl rfl (by rfl) rfl ?_ | refine O.loadE hE T42 rfl rfl (by rfl) rfl ?_ | refine O.load hE T42 rfl rfl rfl rfl ?_
    refine O.move rfl rfl ?_
    refine O.move rfl rfl ?_
    first | refine O.loadS hE T3 rfl rfl rfl (by rfl) rfl ?_ | refine O.loadE hE T3 rfl rfl (by rfl) rfl ?_ | refine O.load hE T3 rfl rfl rfl rfl ?_
    first | refine O.loadS hE T3 rfl rfl rfl (by rfl) rfl ?_ | refine O.loadE hE T3 rfl rfl (by rfl) rfl ?_ | refine O.load hE T3 rfl rfl rfl rfl ?_
    refine O.build hE T46 L46 rfl rfl rfl ?_
    refine O.callE ct rfl (by first | rfl | simp [closed, men3, mens2_app, mens2_ints, mens2, men2, men1, mens1_app, mens1_ints, mens1]) (by first | rfl | simp [d2, ds1_ints, ds1_app, ds1, d1, ds0_app, ds0_ints, ds0, d0]) rfl ?_
    refine O.move rfl rfl ?_
    refine O.extract rfl rfl rfl ?_
    refine O.extract rfl rfl rfl ?_
    refine O.assign rfl rfl ?_
    refine O.assign rfl rfl ?_
    refine O.nil ?_
    try refine Run.keep [0, 1, 2, 6, 7, 8, 9, 10, 11, 12, 13, 14, 15, 16, 17, 18, 19, 20, 47] rfl rfl ?_
    repeat (first | refine Run.seq ?_ | refine Run.skip ?_ | refine Run.block ?_)
    refine Run.region ?_
    refine O.move rfl rfl ?_
    refine O.move rfl rfl ?_
    first | refine O.loadS hE T3 rfl rfl rfl (by rfl) rfl ?_ | refine O.loadE hE T3 rfl rfl (by rfl) rfl ?_ | refine O.load hE T3 rfl rfl rfl rfl ?_
    first | refine O.loadS hE T3 rfl rfl rfl (by rfl) rfl ?_ | refine O.loadE hE T3 rfl rfl (by rfl) rfl ?_ | refine O.load hE T3 rfl rfl rfl rfl ?_
    refine O.callE cp rfl (by first | rfl | simp [closed, men3, mens2_app, mens2_ints, mens2, men2, men1, mens1_app, mens1_ints, mens1]) (by first | rfl | simp [d2, ds1_ints, ds1_app, ds1, d1, ds0_app, ds0_ints, ds0, d0]) rfl ?_
    refine O.move rfl rfl ?_
    refine O.extract rfl rfl rfl ?_
    refine O.extract rfl rfl rfl ?_
    refine O.assign rfl rfl ?_
    refine O.assign rfl rfl ?_
    refine O.nil ?_
    try refine Run.keep [0, 1, 2, 6, 7, 8, 9, 10, 11, 12, 13, 14, 15, 16, 17, 18, 19, 20, 47] rfl rfl ?_
    repeat (first | refine Run.seq ?_ | refine Run.skip ?_ | refine Run.block ?_)
    refine Run.region ?_
    refine O.move rfl rfl ?_
    refine O.move rfl rfl ?_
    first | refine O.loadS hE T3 rfl rfl rfl (by rfl) rfl ?_ | refine O.loadE hE T3 rfl rfl (by rfl) rfl ?_ | refine O.load hE T3 rfl rfl rfl rfl ?_
    first | refine O.loadS hE T3 rfl rfl rfl (by rfl) rfl ?_ | refine O.loadE hE T3 rfl rfl (by rfl) rfl ?_ | refine O.load hE T3 rfl rfl rfl rfl ?_
    refine O.callE cq rfl (by first | rfl | simp [closed, men3, mens2_app, mens2_ints, mens2, men2, men1, mens1_app, mens1_ints, mens1]) (by first | rfl | simp [d2, ds1_ints, ds1_app, ds1, d1, ds0_app, ds0_ints, ds0, d0]) rfl ?_
    refine O.move rfl rfl ?_
    refine O.extract rfl rfl rfl ?_
    refine O.extract rfl rfl rfl ?_
    refine O.assign rfl rfl ?_
    refine O.assign rfl rfl ?_
    refine O.nil ?_
    try refine Run.keep [0, 1, 2, 6, 7, 8, 9, 10, 11, 12, 13, 14, 15, 16, 17, 18, 19, 20, 47] rfl rfl ?_
    repeat (first | refine Run.seq ?_ | refine Run.skip ?_ | refine Run.block ?_)
    refine Run.region ?_
    first | refine O.loadS hE T4 rfl rfl rfl (by rfl) rfl ?_ | refine O.loadE hE T4 rfl rfl (by rfl) rfl ?_ | refine O.load hE T4 rfl rfl rfl rfl ?_
    refine O.move rfl rfl ?_
    first | (refine O.yes rfl rfl (by first | rfl | assumption) ?_; first | refine O.loadS hE T42 rfl rfl rfl (by rfl) rfl ?_ | refine O.loadE hE T42 rfl rfl (by rfl) rfl ?_ | refine O.load hE T42 rfl rfl rfl rfl ?_) | refine O.no rfl rfl rfl rfl ?_
    first | (refine O.yes rfl rfl (by first | rfl | assumption) ?_; refine O.lenN hE T42 rfl rfl rfl newest_pv hXm rfl ?_) | refine O.no rfl rfl rfl rfl ?_
    first | (refine O.yes rfl rfl (by first | rfl | assumption) ?_; refine O.cmp (c' := true) rfl rfl rfl (decide_eq_true (by omega)) rfl ?_) | refine O.no rfl rfl rfl rfl ?_
    refine O.pick rfl rfl rfl rfl rfl ?_
    refine O.move rfl rfl ?_
    first | (refine O.yes rfl rfl (by first | rfl | assumption) ?_; refine O.move rfl rfl ?_) | refine O.no rfl rfl rfl rfl ?_
    first | (refine O.yes rfl rfl (by first | rfl | assumption) ?_; first | refine O.cmp rfl rfl rfl (by first | exact decide_eq_true (by omega) | exact decide_eq_false (by omega)) rfl ?_ | refine O.cmp rfl rfl rfl rfl rfl ?_) | refine O.no rfl rfl rfl rfl ?_
    refine O.pick rfl rfl rfl rfl rfl ?_
    refine O.move rfl rfl ?_
    first | (refine O.yes rfl rfl (by first | rfl | assumption) ?_; refine O.move rfl rfl ?_) | refine O.no rfl rfl rfl rfl ?_
    first | (refine O.yes rfl rfl (by first | rfl | assumption) ?_; first | refine O.cmp rfl rfl rfl (by first | exact decide_eq_true (by omega) | exact decide_eq_false (by omega)) rfl ?_ | refine O.cmp rfl rfl rfl rfl rfl ?_) | refine O.no rfl rfl rfl rfl ?_
    refine O.pick rfl rfl rfl rfl rfl ?_
    refine O.move rfl rfl ?_
    first | (refine O.yes rfl rfl (by first | rfl | assumption) ?_; refine O.move rfl rfl ?_) | refine O.no rfl rfl rfl rfl ?_
    first | (refine O.yes rfl rfl (by first | rfl | assumption) ?_; first | refine O.cmp rfl rfl rfl (by first | exact decide_eq_true (by omega) | exact decide_eq_false (by omega)) rfl ?_ | refine O.cmp rfl rfl rfl rfl rfl ?_) | refine O.no rfl rfl rfl rfl ?_
    refine O.pick rfl rfl rfl rfl rfl ?_
    refine O.move rfl rfl ?_
    first | (refine O.yes rfl rfl (by first | rfl | assumption) ?_; refine O.move rfl rfl ?_) | refine O.no rfl rfl rfl rfl ?_
    first | (refine O.yes rfl rfl (by first | rfl | assumption) ?_; refine O.move rfl rfl ?_) | refine O.no rfl rfl rfl rfl ?_
    first | (refine O.yes rfl rfl (by first | rfl | assumption) ?_; refine O.eqB rfl rfl hE T4 rfl rfl rfl ?_) | refine O.no rfl rfl rfl rfl ?_
    refine O.pick rfl rfl rfl rfl rfl ?_
    refine O.move rfl rfl ?_
    first | (refine O.yes rfl rfl (by first | rfl | assumption) ?_; refine O.move rfl rfl ?_) | refine O.no rfl rfl rfl rfl ?_
    first | (refine O.yes rfl rfl (by first | rfl | assumption) ?_; refine O.move rfl rfl ?_) | refine O.no rfl rfl rfl rfl ?_
    first | (refine O.yes rfl rfl (by first | rfl | assumption) ?_; refine O.eqB rfl rfl hE T4 rfl rfl rfl ?_) | refine O.no rfl rfl rfl rfl ?_
    refine O.pick rfl rfl rfl rfl rfl ?_
    refine O.assign rfl rfl ?_
    refine O.nil ?_
    try refine Run.keep [0, 1, 2, 6, 7, 8, 9, 10, 11, 12, 13, 14, 15, 16, 17, 18, 19, 20, 47] rfl rfl ?_
    (repeat (first | refine Run.seq ?_ | refine Run.skip ?_)); (try refine Run.ret ?_); first | exact Ends.flat hE (.inr rfl) rfl rfl (AVle.of_eq rfl) rfl | exact Ends.flat hE (.inl rfl) rfl rfl (AVle.of_eq rfl) rfl
  | false =>
    simp only [Bool.false_eq_true, if_false] at *
    refine FnC.of Try.func5 rfl rfl rfl rfl ?_
    repeat (first | refine Run.seq ?_ | refine Run.skip ?_ | refine Run.block ?_)
    refine Run.region ?_
    refine O.assign rfl rfl ?_
    refine O.nil ?_
    try refine Run.keep [0, 1, 2, 6, 7, 8, 9, 10, 11, 12, 13, 14, 15, 16, 17, 18, 19, 20, 47] rfl rfl ?_
    repeat (first | refine Run.seq ?_ | refine Run.skip ?_ | refine Run.block ?_)
    refine Run.region ?_
    refine O.move rfl rfl ?_
    refine O.callE c1 rfl (by first | rfl | simp [closed, men3, mens2_app, mens2_ints, mens2, men2, men1, mens1_app, mens1_ints, mens1]) (by first | rfl | simp [d2, ds1_ints, ds1_app, ds1, d1, ds0_app, ds0_ints, ds0, d0]) rfl ?_
    refine O.move rfl rfl ?_
    refine O.callE c2 rfl (by first | rfl | simp [closed, men3, mens2_app, mens2_ints, mens2, men2, men1, mens1_app, mens1_ints, mens1]) (by first | rfl | simp [d2, ds1_ints, ds1_app, ds1, d1, ds0_app, ds0_ints, ds0, d0]) rfl ?_
    refine O.ar (q := w) rfl rfl rfl hwp rfl ?_
    refine O.alloc hE 7 T3 rfl rfl rfl ?_
    refine O.alloc hE 8 T3 rfl rfl rfl ?_
    refine O.store hE T3 rfl rfl rfl rfl rfl rfl ?_
    refine O.store hE T3 rfl rfl rfl rfl rfl rfl ?_
    refine O.nil ?_
    try refine Run.keep [0, 1, 2, 6, 7, 8, 9, 10, 11, 12, 13, 14, 15, 16, 17, 18, 19, 20, 47] rfl rfl ?_
    repeat (first | refine Run.seq ?_ | refine Run.skip ?_ | refine Run.block ?_)
    refine Run.region ?_
    first | refine O.loadS hE T3 rfl rfl rfl (by rfl) rfl ?_ | refine O.loadE hE T3 rfl rfl (by rfl) rfl ?_ | refine O.load hE T3 rfl rfl rfl rfl ?_
    refine O.quoE (q := u) rfl rfl ho0 (by omega) hu' rfl ?_
    refine O.assign rfl rfl ?_
    refine O.nil ?_
    try refine Run.keep [0, 1, 2, 6, 7, 8, 9, 10, 11, 12, 13, 14, 15, 16, 17, 18, 19, 20, 47] rfl rfl ?_
    repeat (first | refine Run.seq ?_ | refine Run.skip ?_ | refine Run.block ?_)
    refine Run.region ?_
    refine O.move rfl rfl ?_
    refine O.ar (q := u + 1) rfl rfl rfl (wrap_i64 (by omega) (by omega)) rfl ?_
    refine O.remE rfl rfl (by omega) (by omega) rfl ?_; rw [hp]
    refine O.move rfl rfl ?_
    refine O.ar (q := u + 2) rfl rfl rfl (wrap_i64 (by omega) (by omega)) rfl ?_
    refine O.remE rfl rfl (by omega) (by omega) rfl ?_; rw [hq]
    refine O.assign rfl rfl ?_
    refine O.assign rfl rfl ?_
    refine O.nil ?_
    try refine Run.keep [0, 1, 2, 6, 7, 8, 9, 10, 11, 12, 13, 14, 15, 16, 17, 18, 19, 20, 47] rfl rfl ?_
    repeat (first | refine Run.seq ?_ | refine Run.skip ?_ | refine Run.block ?_)
    refine Run.region ?_
    refine O.alloc hE 12 T42 rfl rfl rfl ?_
    refine O.nil ?_
    try refine Run.keep [0, 1, 2, 6, 7, 8, 9, 10, 11, 12, 13, 14, 15, 16, 17, 18, 19, 20, 47] rfl rfl ?_
    repeat (first | refine Run.seq ?_ | refine Run.skip ?_ | refine Run.block ?_)
    refine Run.region ?_
    refine O.alloc hE 13 T4 rfl rfl rfl ?_
    refine O.store hE T4 rfl rfl rfl rfl rfl rfl ?_
    refine O.nil ?_
    try refine Run.keep [0, 1, 2, 6, 7, 8, 9, 10, 11, 12, 13, 14, 15, 16, 17, 18, 19, 20, 47] rfl rfl ?_
    repeat (first | refine Run.seq ?_ | refine Run.skip ?_ | refine Run.block ?_)
    refine Run.region ?_
    refine O.makeFunc rfl rfl ?_
    refine O.assign rfl rfl ?_
    refine O.nil ?_
    try refine Run.keep [0, 1, 2, 6, 7, 8, 9, 10, 11, 12, 13, 14, 15, 16, 17, 18, 19, 20, 47] rfl rfl ?_
    repeat (first | refine Run.seq ?_ | refine Run.skip ?_ | refine Run.block ?_)
    refine Run.region ?_
    refine O.move rfl rfl ?_
    refine O.move rfl rfl ?_
    refine O.move rfl rfl ?_
    refine O.lend (ln := [12, 7, 8, 13]) d1 rfl rfl rfl (.inl rfl) (by repeat (first | exact BxIn.nil | refine BxIn.cons rfl ?_)) rfl rfl rfl rfl rfl rfl rfl rfl rfl rfl ?_
    refine O.nil ?_
    try refine Run.keep [0, 1, 2, 6, 7, 8, 9, 10, 11, 12, 13, 14, 15, 16, 17, 18, 19, 20, 47] rfl rfl ?_
    repeat (first | refine Run.seq ?_ | refine Run.skip ?_ | refine Run.block ?_)
    refine Run.region ?_
    refine O.move rfl rfl ?_
    refine O.move rfl rfl ?_
    refine O.move rfl rfl ?_
    refine O.lend (ln := [12, 7, 8, 13]) d2 rfl rfl rfl (.inl rfl) (by repeat (first | exact BxIn.nil | refine BxIn.cons rfl ?_)) rfl rfl rfl rfl rfl rfl rfl rfl rfl rfl ?_
    refine O.nil ?_
    try refine Run.keep [0, 1, 2, 6, 7, 8, 9, 10, 11, 12, 13, 14, 15, 16, 17, 18, 19, 20, 47] rfl rfl ?_
    repeat (first | refine Run.seq ?_ | refine Run.skip ?_ | refine Run.block ?_)
    refine Run.region ?_
    refine O.move rfl rfl ?_
    refine O.move rfl rfl ?_
    refine O.move rfl rfl ?_
    refine O.lend (ln := [12, 7, 8, 13]) d3 rfl rfl rfl (.inl rfl) (by repeat (first | exact BxIn.nil | refine BxIn.cons rfl ?_)) rfl rfl rfl rfl rfl rfl rfl rfl rfl rfl ?_
    refine O.nil ?_
    try refine Run.keep [0, 1, 2, 6, 7, 8, 9, 10, 11, 12, 13, 14, 15, 16, 17, 18, 19, 20, 47] rfl rfl ?_
    repeat (first | refine Run.seq ?_ | refine Run.skip ?_ | refine Run.block ?_)
    refine Run.region ?_
    refine O.move rfl rfl ?_
    refine O.nil ?_
    try refine Run.keep [0, 1, 2, 6, 7, 8, 9, 10, 11, 12, 13, 14, 15, 16, 17, 18, 19, 20, 47] rfl rfl ?_
    repeat (first | refine Run.seq ?_ | refine Run.skip ?_)
    first | refine Run.condT rfl rfl ?_ | refine Run.condF rfl rfl ?_ | refine Run.condT rfl (by assumption) ?_ | refine Run.condF rfl (by assumption) ?_
    have hXm : (((l3.map grE).length : Nat) : Int) = l3.length := by simp
    repeat (first | refine Run.seq ?_ | refine Run.skip ?_ | refine Run.block ?_)
    refine Run.region ?_
    first | refine O.loadS hE T42 rfl rfl rfl (by rfl) rfl ?_ | refine O.loadE hE T42 rfl rfl (by rfl) rfl ?_ | refine O.load hE T42 rfl rfl rfl rfl ?_
    refine O.move rfl rfl ?_
    refine O.move rfl rfl ?_
    first | refine O.loadS hE T3 rfl rfl rfl (by rfl) rfl ?_ | refine O.loadE hE T3 rfl rfl (by rfl) rfl ?_ | refine O.load hE T3 rfl rfl rfl rfl ?_
    first | refine O.loadS hE T3 rfl rfl rfl (by rfl) rfl ?_ | refine O.loadE hE T3 rfl rfl (by rfl) rfl ?_ | refine O.load hE T3 rfl rfl rfl rfl ?_
    refine O.build hE T46 L46 rfl rfl rfl ?_
    refine O.callE ct rfl (by first | rfl | simp [closed, men3, mens2_app, mens2_ints, mens2, men2, men1, mens1_app, mens1_ints, mens1]) (by first | rfl | simp [d2, ds1_ints, ds1_app, ds1, d1, ds0_app, ds0_ints, ds0, d0]) rfl ?_
    refine O.move rfl rfl ?_
    refine O.extract rfl rfl rfl ?_
    refine O.extract rfl rfl rfl ?_
    refine O.assign rfl rfl ?_
    refine O.assign rfl rfl ?_
    refine O.nil ?_
    try refine Run.keep [0, 1, 2, 6, 7, 8, 9, 10, 11, 12, 13, 14, 15, 16, 17, 18, 19, 20, 47] rfl rfl ?_
    repeat (first | refine Run.seq ?_ | refine Run.skip ?_ | refine Run.block ?_)
    refine Run.region ?_
    refine O.move rfl rfl ?_
    refine O.move rfl rfl ?_
    first | refine O.loadS hE T3 rfl rfl rfl (by rfl) rfl ?_ | refine O.loadE hE T3 rfl rfl (by rfl) rfl ?_ | refine O.load hE T3 rfl rfl rfl rfl ?_
    first | refine O.loadS hE T3 rfl rfl rfl (by rfl) rfl ?_ | refine O.loadE hE T3 rfl rfl (by rfl) rfl ?_ | refine O.load hE T3 rfl rfl rfl rfl ?_
    refine O.callE cp rfl (by first | rfl | simp [closed, men3, mens2_app, mens2_ints, mens2, men2, men1, mens1_app, mens1_ints, mens1]) (by first | rfl | simp [d2, ds1_ints, ds1_app, ds1, d1, ds0_app, ds0_ints, ds0, d0]) rfl ?_
    refine O.move rfl rfl ?_
    refine O.extract rfl rfl rfl ?_
    refine O.extract rfl rfl rfl ?_
    refine O.assign rfl rfl ?_
    refine O.assign rfl rfl ?_
    refine O.nil ?_
    try refine Run.keep [0, 1, 2, 6, 7, 8, 9, 10, 11, 12, 13, 14, 15, 16, 17, 18, 19, 20, 47] rfl rfl ?_
    repeat (first | refine Run.seq ?_ | refine Run.skip ?_ | refine Run.block ?_)
    refine Run.region ?_
    refine O.move rfl rfl ?_
    refine O.move rfl rfl ?_
    first | refine O.loadS hE T3 rfl rfl rfl (by rfl) rfl ?_ | refine O.loadE hE T3 rfl rfl (by rfl) rfl ?_ | refine O.load hE T3 rfl rfl rfl rfl ?_
    first | refine O.loadS hE T3 rfl rfl rfl (by rfl) rfl ?_ | refine O.loadE hE T3 rfl rfl (by rfl) rfl ?_ | refine O.load hE T3 rfl rfl rfl rfl ?_
    refine O.callE cq rfl (by first | rfl | simp [closed, men3, mens2_app, mens2_ints, mens2, men2, men1, mens1_app, mens1_ints, mens1]) (by first | rfl | simp [d2, ds1_ints, ds1_app, ds1, d1, ds0_app, ds0_ints, ds0, d0]) rfl ?_
    refine O.move rfl rfl ?_
    refine O.extract rfl rfl rfl ?_
    refine O.extract rfl rfl rfl ?_
    refine O.assign rfl rfl ?_
    refine O.assign rfl rfl ?_
    refine O.nil ?_
    try refine Run.keep [0, 1, 2, 6, 7, 8, 9, 10, 11, 12, 13, 14, 15, 16, 17, 18, 19, 20, 47] rfl rfl ?_
    repeat (first | refine Run.seq ?_ | refine Run.skip ?_ | refine Run.block ?_)
    refine Run.region ?_
    first | refine O.loadS hE T4 rfl rfl rfl (by rfl) rfl ?_ | refine O.loadE hE T4 rfl rfl (by rfl) rfl ?_ | refine O.load hE T4 rfl rfl rfl rfl ?_
    refine O.move rfl rfl ?_
    first | (refine O.yes rfl rfl (by first | rfl | assumption) ?_; first | refine O.loadS hE T42 rfl rfl rfl (by rfl) rfl ?_ | refine O.loadE hE T42 rfl rfl (by rfl) rfl ?_ | refine O.load hE T42 rfl rfl rfl rfl ?_) | refine O.no rfl rfl rfl rfl ?_
    first | (refine O.yes rfl rfl (by first | rfl | assumption) ?_; refine O.lenN hE T42 rfl rfl rfl newest_pv hXm rfl ?_) | refine O.no rfl rfl rfl rfl ?_
    first | (refine O.yes rfl rfl (by first | rfl | assumption) ?_; refine O.cmp (c' := true) rfl rfl rfl (decide_eq_true (by omega)) rfl ?_) | refine O.no rfl rfl rfl rfl ?_
    refine O.pick rfl rfl rfl rfl rfl ?_
    refine O.move rfl rfl ?_
    first | (refine O.yes rfl rfl (by first | rfl | assumption) ?_; refine O.move rfl rfl ?_) | refine O.no rfl rfl rfl rfl ?_
    first | (refine O.yes rfl rfl (by first | rfl | assumption) ?_; first | refine O.cmp rfl rfl rfl (by first | exact decide_eq_true (by omega) | exact decide_eq_false (by omega)) rfl ?_ | refine O.cmp rfl rfl rfl rfl rfl ?_) | refine O.no rfl rfl rfl rfl ?_
    refine O.pick rfl rfl rfl rfl rfl ?_
    refine O.move rfl rfl ?_
    first | (refine O.yes rfl rfl (by first | rfl | assumption) ?_; refine O.move rfl rfl ?_) | refine O.no rfl rfl rfl rfl ?_
    first | (refine O.yes rfl rfl (by first | rfl | assumption) ?_; first | refine O.cmp rfl rfl rfl (by first | exact decide_eq_true (by omega) | exact decide_eq_false (by omega)) rfl ?_ | refine O.cmp rfl rfl rfl rfl rfl ?_) | refine O.no rfl rfl rfl rfl ?_
    refine O.pick rfl rfl rfl rfl rfl ?_
    refine O.move rfl rfl ?_
    first | (refine O.yes rfl rfl (by first | rfl | assumption) ?_; refine O.move rfl rfl ?_) | refine O.no rfl rfl rfl rfl ?_
    first | (refine O.yes rfl rfl (by first | rfl | assumption) ?_; first | refine O.cmp rfl rfl rfl (by first | exact decide_eq_true (by omega) | exact decide_eq_false (by omega)) rfl ?_ | refine O.cmp rfl rfl rfl rfl rfl ?_) | refine O.no rfl rfl rfl rfl ?_
    refine O.pick rfl rfl rfl rfl rfl ?_
    refine O.move rfl rfl ?_
    first | (refine O.yes rfl rfl (by first | rfl | assumption) ?_; refine O.move rfl rfl ?_) | refine O.no rfl rfl rfl rfl ?_
    first | (refine O.yes rfl rfl (by first | rfl | assumption) ?_; refine O.move rfl rfl ?_) | refine O.no rfl rfl rfl rfl ?_
    first | (refine O.yes rfl rfl (by first | rfl | assumption) ?_; refine O.eqB rfl rfl hE T4 rfl rfl rfl ?_) | refine O.no rfl rfl rfl rfl ?_
    refine O.pick rfl rfl rfl rfl rfl ?_
    refine O.move rfl rfl ?_
    first | (refine O.yes rfl rfl (by first | rfl | assumption) ?_; refine O.move rfl rfl ?_) | refine O.no rfl rfl rfl rfl ?_
    first | (refine O.yes rfl rfl (by first | rfl | assumption) ?_; refine O.move rfl rfl ?_) | refine O.no rfl rfl rfl rfl ?_
    first | (refine O.yes rfl rfl (by first | rfl | assumption) ?_; refine O.eqB rfl rfl hE T4 rfl rfl rfl ?_) | refine O.no rfl rfl rfl rfl ?_
    refine O.pick rfl rfl rfl rfl rfl ?_
    refine O.assign rfl rfl ?_
    refine O.nil ?_
    try refine Run.keep [0, 1, 2, 6, 7, 8, 9, 10, 11, 12, 13, 14, 15, 16, 17, 18, 19, 20, 47] rfl rfl ?_
    (repeat (first | refine Run.seq ?_ | refine Run.skip ?_)); (try refine Run.ret ?_); first | exact Ends.flat hE (.inr rfl) rfl rfl (AVle.of_eq rfl) rfl | exact Ends.flat hE (.inl rfl) rfl rfl (AVle.of_eq rfl) rfl
end Go.Proofs.Ytokjeodlcilfpaa.Vm
