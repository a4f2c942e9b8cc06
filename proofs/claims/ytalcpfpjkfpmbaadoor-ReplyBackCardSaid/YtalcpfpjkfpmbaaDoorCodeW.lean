/- Values made of raw things. Conditions: none. -/
import Derived.Test.YtalcpfpjkfpmbaaDoorCodeC
namespace Go.Proofs.YtalcpfpjkfpmbaaDoor.Vm
open Go Go.RowKit Go.Lib
set_option linter.unusedVariables false
set_option linter.unusedSimpArgs false
attribute [local irreducible] Ops Dr Run
variable {g : Nat → Option (List PV)}
def RwOk (r : Rw) : Prop := -9223372036854775808 ≤ r.a ∧ r.a ≤ 9223372036854775807
theorem valOf_ex {r : Rw} (hr : RwOk r) {kd : Int} (h0 : 0 ≤ kd) (h4 : kd ≤ 4) : ∃ v : Vl, Good v ∧ FnC (En Tryd.prog g) 26 [.pv (.int .i64 kd), .agg [.pv (.int .i64 r.kd), .pv (.int .i64 r.a), .pv (.int .i64 r.b), .pv (.str r.s)]] (vlA v) [] := by
  have hE := EnOk g
  obtain ⟨rk, a, b, s⟩ := r
  obtain ⟨ha1, ha2⟩ := hr
  dsimp only at ha1 ha2 ⊢
  suffices h : ∃ w, (∃ v : Vl, Good v ∧ w = vlA v) ∧ FnC (En Tryd.prog g) 26 [.pv (.int .i64 kd), .agg [.pv (.int .i64 rk), .pv (.int .i64 a), .pv (.int .i64 b), .pv (.str s)]] w [] by
    obtain ⟨_, ⟨v, h1, rfl⟩, h2⟩ := h
    exact ⟨v, h1, h2⟩
  have c1 := fnPick (g := g) (a := a) (m := 2) (by omega) (by omega)
  have h2 : a % 2 = 0 ∨ a % 2 = 1 := by omega
  generalize a % 2 = z at *
  obtain ⟨n, hn, c2⟩ := real_ex (g := g) a b
  obtain ⟨t, ⟨ht, hrun⟩, c3⟩ := clean_exR (g := g) s (most := 20) (by decide) (by decide)
  refine FnC.ofEx Tryd.func26 rfl rfl rfl rfl ?_
  have hk : kd = 0 ∨ kd = 1 ∨ kd = 2 ∨ kd = 3 ∨ kd = 4 := by omega
  rcases hk with rfl | rfl | rfl | rfl | rfl
  ·
    repeat (first | refine Run.seq ?_ | refine Run.skip ?_ | refine Run.block ?_)
    refine Run.region ?_
    refine O.box 3 rfl (by first | rfl | exact cells_ones (by simp [ones_app, ones_ints, ones, AV.one, PV.one])) rfl rfl ?_
    refine O.alloc hE 4 T60 rfl rfl rfl ?_
    refine O.nil ?_
    try refine Run.keep [0, 1, 3, 4, 5, 8, 9, 15, 20, 28] rfl rfl ?_
    repeat (first | refine Run.seq ?_ | refine Run.skip ?_ | refine Run.block ?_)
    refine Run.region ?_
    refine O.move rfl rfl ?_
    refine O.build hE T60 L60 rfl rfl rfl ?_
    refine O.alloc hE 5 T60 rfl rfl rfl ?_
    refine O.store hE T60 rfl rfl rfl rfl rfl rfl ?_
    refine O.nil ?_
    try refine Run.keep [0, 1, 3, 4, 5, 8, 9, 15, 20, 28] rfl rfl ?_
    repeat (first | refine Run.seq ?_ | refine Run.skip ?_ | refine Run.block ?_)
    refine Run.region ?_
    refine O.move rfl rfl ?_
    refine O.nil ?_
    try refine Run.keep [0, 1, 3, 4, 5, 8, 9, 15, 20, 28] rfl rfl ?_
    repeat (first | refine Run.seq ?_ | refine Run.skip ?_ | refine Run.block ?_)
    refine Run.region ?_
    first | refine O.cmp rfl rfl rfl (by first | exact decide_eq_true (by omega) | exact decide_eq_false (by omega)) rfl ?_ | refine O.cmp rfl rfl rfl rfl rfl ?_
    refine O.assign rfl rfl ?_
    refine O.nil ?_
    try refine Run.keep [0, 1, 3, 4, 5, 8, 9, 15, 20, 28] rfl rfl ?_
    repeat (first | refine Run.seq ?_ | refine Run.skip ?_)
    first | refine Run.condT rfl rfl ?_ | refine Run.condF rfl rfl ?_ | refine Run.condT rfl (by assumption) ?_ | refine Run.condF rfl (by assumption) ?_
    repeat (first | refine Run.seq ?_ | refine Run.skip ?_ | refine Run.block ?_)
    refine Run.region ?_
    first | refine O.cmp rfl rfl rfl (by first | exact decide_eq_true (by omega) | exact decide_eq_false (by omega)) rfl ?_ | refine O.cmp rfl rfl rfl rfl rfl ?_
    refine O.assign rfl rfl ?_
    refine O.nil ?_
    try refine Run.keep [0, 1, 3, 4, 5, 8, 9, 15, 20, 28] rfl rfl ?_
    repeat (first | refine Run.seq ?_ | refine Run.skip ?_)
    first | refine Run.condT rfl rfl ?_ | refine Run.condF rfl rfl ?_ | refine Run.condT rfl (by assumption) ?_ | refine Run.condF rfl (by assumption) ?_
    repeat (first | refine Run.seq ?_ | refine Run.skip ?_ | refine Run.block ?_)
    refine Run.region ?_
    first | refine O.cmp rfl rfl rfl (by first | exact decide_eq_true (by omega) | exact decide_eq_false (by omega)) rfl ?_ | refine O.cmp rfl rfl rfl rfl rfl ?_
    refine O.assign rfl rfl ?_
    refine O.nil ?_
    try refine Run.keep [0, 1, 3, 4, 5, 8, 9, 15, 20, 28] rfl rfl ?_
    repeat (first | refine Run.seq ?_ | refine Run.skip ?_)
    first | refine Run.condT rfl rfl ?_ | refine Run.condF rfl rfl ?_ | refine Run.condT rfl (by assumption) ?_ | refine Run.condF rfl (by assumption) ?_
    repeat (first | refine Run.seq ?_ | refine Run.skip ?_ | refine Run.block ?_)
    refine Run.region ?_
    first | refine O.cmp rfl rfl rfl (by first | exact decide_eq_true (by omega) | exact decide_eq_false (by omega)) rfl ?_ | refine O.cmp rfl rfl rfl rfl rfl ?_
    refine O.assign rfl rfl ?_
    refine O.nil ?_
    try refine Run.keep [0, 1, 3, 4, 5, 8, 9, 15, 20, 28] rfl rfl ?_
    repeat (first | refine Run.seq ?_ | refine Run.skip ?_)
    first | refine Run.condT rfl rfl ?_ | refine Run.condF rfl rfl ?_ | refine Run.condT rfl (by assumption) ?_ | refine Run.condF rfl (by assumption) ?_
    repeat (first | refine Run.seq ?_ | refine Run.skip ?_ | refine Run.block ?_)
    refine Run.region ?_
    refine O.load hE T60 rfl rfl rfl rfl ?_
    refine O.store hE T60 rfl rfl rfl rfl rfl rfl ?_
    refine O.nil ?_
    try refine Run.keep [0, 1, 3, 4, 5, 8, 9, 15, 20, 28] rfl rfl ?_
    refine Run.ret ?_
    exact ⟨_, ⟨⟨0, 0, 0, ⟨#[]⟩⟩, .null, rfl⟩, Ends.flat hE (.inr rfl) rfl rfl (AVle.of_eq rfl) rfl⟩
  ·
    repeat (first | refine Run.seq ?_ | refine Run.skip ?_ | refine Run.block ?_)
    refine Run.region ?_
    refine O.box 3 rfl (by first | rfl | exact cells_ones (by simp [ones_app, ones_ints, ones, AV.one, PV.one])) rfl rfl ?_
    refine O.alloc hE 4 T60 rfl rfl rfl ?_
    refine O.nil ?_
    try refine Run.keep [0, 1, 3, 4, 5, 8, 9, 15, 20, 28] rfl rfl ?_
    repeat (first | refine Run.seq ?_ | refine Run.skip ?_ | refine Run.block ?_)
    refine Run.region ?_
    refine O.move rfl rfl ?_
    refine O.build hE T60 L60 rfl rfl rfl ?_
    refine O.alloc hE 5 T60 rfl rfl rfl ?_
    refine O.store hE T60 rfl rfl rfl rfl rfl rfl ?_
    refine O.nil ?_
    try refine Run.keep [0, 1, 3, 4, 5, 8, 9, 15, 20, 28] rfl rfl ?_
    repeat (first | refine Run.seq ?_ | refine Run.skip ?_ | refine Run.block ?_)
    refine Run.region ?_
    refine O.move rfl rfl ?_
    refine O.nil ?_
    try refine Run.keep [0, 1, 3, 4, 5, 8, 9, 15, 20, 28] rfl rfl ?_
    repeat (first | refine Run.seq ?_ | refine Run.skip ?_ | refine Run.block ?_)
    refine Run.region ?_
    first | refine O.cmp rfl rfl rfl (by first | exact decide_eq_true (by omega) | exact decide_eq_false (by omega)) rfl ?_ | refine O.cmp rfl rfl rfl rfl rfl ?_
    refine O.assign rfl rfl ?_
    refine O.nil ?_
    try refine Run.keep [0, 1, 3, 4, 5, 8, 9, 15, 20, 28] rfl rfl ?_
    repeat (first | refine Run.seq ?_ | refine Run.skip ?_)
    first | refine Run.condT rfl rfl ?_ | refine Run.condF rfl rfl ?_ | refine Run.condT rfl (by assumption) ?_ | refine Run.condF rfl (by assumption) ?_
    repeat (first | refine Run.seq ?_ | refine Run.skip ?_ | refine Run.block ?_)
    refine Run.region ?_
    refine O.field hE L57 rfl rfl rfl rfl ?_
    first | refine O.loadS hE T3 rfl rfl rfl (by rfl) rfl ?_ | refine O.loadE hE T3 rfl rfl (by rfl) rfl ?_ | refine O.load hE T3 rfl rfl rfl rfl ?_
    refine O.callE c1 rfl (by first | rfl | simp [closed, men3, mens2_app, mens2_ints, mens2, men2, men1, mens1_app, mens1_ints, mens1]) (by first | rfl | simp [d2, ds1_ints, ds1_app, ds1, d1, ds0_app, ds0_ints, ds0, d0]) rfl ?_
    refine O.field hE L60 rfl rfl rfl rfl ?_
    refine O.store hE T3 rfl rfl rfl rfl rfl rfl ?_
    refine O.nil ?_
    try refine Run.keep [0, 1, 3, 4, 5, 8, 9, 15, 20, 28] rfl rfl ?_
    repeat (first | refine Run.seq ?_ | refine Run.skip ?_ | refine Run.block ?_)
    refine Run.region ?_
    refine O.load hE T60 rfl rfl rfl rfl ?_
    refine O.store hE T60 rfl rfl rfl rfl rfl rfl ?_
    refine O.nil ?_
    try refine Run.keep [0, 1, 3, 4, 5, 8, 9, 15, 20, 28] rfl rfl ?_
    refine Run.ret ?_
    exact ⟨_, ⟨⟨1, z, 0, ⟨#[]⟩⟩, .bool z h2, rfl⟩, Ends.flat hE (.inr rfl) rfl rfl (AVle.of_eq rfl) rfl⟩
  ·
    repeat (first | refine Run.seq ?_ | refine Run.skip ?_ | refine Run.block ?_)
    refine Run.region ?_
    refine O.box 3 rfl (by first | rfl | exact cells_ones (by simp [ones_app, ones_ints, ones, AV.one, PV.one])) rfl rfl ?_
    refine O.alloc hE 4 T60 rfl rfl rfl ?_
    refine O.nil ?_
    try refine Run.keep [0, 1, 3, 4, 5, 8, 9, 15, 20, 28] rfl rfl ?_
    repeat (first | refine Run.seq ?_ | refine Run.skip ?_ | refine Run.block ?_)
    refine Run.region ?_
    refine O.move rfl rfl ?_
    refine O.build hE T60 L60 rfl rfl rfl ?_
    refine O.alloc hE 5 T60 rfl rfl rfl ?_
    refine O.store hE T60 rfl rfl rfl rfl rfl rfl ?_
    refine O.nil ?_
    try refine Run.keep [0, 1, 3, 4, 5, 8, 9, 15, 20, 28] rfl rfl ?_
    repeat (first | refine Run.seq ?_ | refine Run.skip ?_ | refine Run.block ?_)
    refine Run.region ?_
    refine O.move rfl rfl ?_
    refine O.nil ?_
    try refine Run.keep [0, 1, 3, 4, 5, 8, 9, 15, 20, 28] rfl rfl ?_
    repeat (first | refine Run.seq ?_ | refine Run.skip ?_ | refine Run.block ?_)
    refine Run.region ?_
    first | refine O.cmp rfl rfl rfl (by first | exact decide_eq_true (by omega) | exact decide_eq_false (by omega)) rfl ?_ | refine O.cmp rfl rfl rfl rfl rfl ?_
    refine O.assign rfl rfl ?_
    refine O.nil ?_
    try refine Run.keep [0, 1, 3, 4, 5, 8, 9, 15, 20, 28] rfl rfl ?_
    repeat (first | refine Run.seq ?_ | refine Run.skip ?_)
    first | refine Run.condT rfl rfl ?_ | refine Run.condF rfl rfl ?_ | refine Run.condT rfl (by assumption) ?_ | refine Run.condF rfl (by assumption) ?_
    repeat (first | refine Run.seq ?_ | refine Run.skip ?_ | refine Run.block ?_)
    refine Run.region ?_
    first | refine O.cmp rfl rfl rfl (by first | exact decide_eq_true (by omega) | exact decide_eq_false (by omega)) rfl ?_ | refine O.cmp rfl rfl rfl rfl rfl ?_
    refine O.assign rfl rfl ?_
    refine O.nil ?_
    try refine Run.keep [0, 1, 3, 4, 5, 8, 9, 15, 20, 28] rfl rfl ?_
    repeat (first | refine Run.seq ?_ | refine Run.skip ?_)
    first | refine Run.condT rfl rfl ?_ | refine Run.condF rfl rfl ?_ | refine Run.condT rfl (by assumption) ?_ | refine Run.condF rfl (by assumption) ?_
    repeat (first | refine Run.seq ?_ | refine Run.skip ?_ | refine Run.block ?_)
    refine Run.region ?_
    refine O.field hE L57 rfl rfl rfl rfl ?_
    first | refine O.loadS hE T3 rfl rfl rfl (by rfl) rfl ?_ | refine O.loadE hE T3 rfl rfl (by rfl) rfl ?_ | refine O.load hE T3 rfl rfl rfl rfl ?_
    refine O.field hE L60 rfl rfl rfl rfl ?_
    refine O.store hE T3 rfl rfl rfl rfl rfl rfl ?_
    refine O.nil ?_
    try refine Run.keep [0, 1, 3, 4, 5, 8, 9, 15, 20, 28] rfl rfl ?_
    repeat (first | refine Run.seq ?_ | refine Run.skip ?_ | refine Run.block ?_)
    refine Run.region ?_
    refine O.load hE T60 rfl rfl rfl rfl ?_
    refine O.store hE T60 rfl rfl rfl rfl rfl rfl ?_
    refine O.nil ?_
    try refine Run.keep [0, 1, 3, 4, 5, 8, 9, 15, 20, 28] rfl rfl ?_
    refine Run.ret ?_
    exact ⟨_, ⟨⟨2, a, 0, ⟨#[]⟩⟩, .int a ⟨ha1, ha2⟩, rfl⟩, Ends.flat hE (.inr rfl) rfl rfl (AVle.of_eq rfl) rfl⟩
  ·
    repeat (first | refine Run.seq ?_ | refine Run.skip ?_ | refine Run.block ?_)
    refine Run.region ?_
    refine O.box 3 rfl (by first | rfl | exact cells_ones (by simp [ones_app, ones_ints, ones, AV.one, PV.one])) rfl rfl ?_
    refine O.alloc hE 4 T60 rfl rfl rfl ?_
    refine O.nil ?_
    try refine Run.keep [0, 1, 3, 4, 5, 8, 9, 15, 20, 28] rfl rfl ?_
    repeat (first | refine Run.seq ?_ | refine Run.skip ?_ | refine Run.block ?_)
    refine Run.region ?_
    refine O.move rfl rfl ?_
    refine O.build hE T60 L60 rfl rfl rfl ?_
    refine O.alloc hE 5 T60 rfl rfl rfl ?_
    refine O.store hE T60 rfl rfl rfl rfl rfl rfl ?_
    refine O.nil ?_
    try refine Run.keep [0, 1, 3, 4, 5, 8, 9, 15, 20, 28] rfl rfl ?_
    repeat (first | refine Run.seq ?_ | refine Run.skip ?_ | refine Run.block ?_)
    refine Run.region ?_
    refine O.move rfl rfl ?_
    refine O.nil ?_
    try refine Run.keep [0, 1, 3, 4, 5, 8, 9, 15, 20, 28] rfl rfl ?_
    repeat (first | refine Run.seq ?_ | refine Run.skip ?_ | refine Run.block ?_)
    refine Run.region ?_
    first | refine O.cmp rfl rfl rfl (by first | exact decide_eq_true (by omega) | exact decide_eq_false (by omega)) rfl ?_ | refine O.cmp rfl rfl rfl rfl rfl ?_
    refine O.assign rfl rfl ?_
    refine O.nil ?_
    try refine Run.keep [0, 1, 3, 4, 5, 8, 9, 15, 20, 28] rfl rfl ?_
    repeat (first | refine Run.seq ?_ | refine Run.skip ?_)
    first | refine Run.condT rfl rfl ?_ | refine Run.condF rfl rfl ?_ | refine Run.condT rfl (by assumption) ?_ | refine Run.condF rfl (by assumption) ?_
    repeat (first | refine Run.seq ?_ | refine Run.skip ?_ | refine Run.block ?_)
    refine Run.region ?_
    first | refine O.cmp rfl rfl rfl (by first | exact decide_eq_true (by omega) | exact decide_eq_false (by omega)) rfl ?_ | refine O.cmp rfl rfl rfl rfl rfl ?_
    refine O.assign rfl rfl ?_
    refine O.nil ?_
    try refine Run.keep [0, 1, 3, 4, 5, 8, 9, 15, 20, 28] rfl rfl ?_
    repeat (first | refine Run.seq ?_ | refine Run.skip ?_)
    first | refine Run.condT rfl rfl ?_ | refine Run.condF rfl rfl ?_ | refine Run.condT rfl (by assumption) ?_ | refine Run.condF rfl (by assumption) ?_
    repeat (first | refine Run.seq ?_ | refine Run.skip ?_ | refine Run.block ?_)
    refine Run.region ?_
    first | refine O.cmp rfl rfl rfl (by first | exact decide_eq_true (by omega) | exact decide_eq_false (by omega)) rfl ?_ | refine O.cmp rfl rfl rfl rfl rfl ?_
    refine O.assign rfl rfl ?_
    refine O.nil ?_
    try refine Run.keep [0, 1, 3, 4, 5, 8, 9, 15, 20, 28] rfl rfl ?_
    repeat (first | refine Run.seq ?_ | refine Run.skip ?_)
    first | refine Run.condT rfl rfl ?_ | refine Run.condF rfl rfl ?_ | refine Run.condT rfl (by assumption) ?_ | refine Run.condF rfl (by assumption) ?_
    repeat (first | refine Run.seq ?_ | refine Run.skip ?_ | refine Run.block ?_)
    refine Run.region ?_
    refine O.field hE L57 rfl rfl rfl rfl ?_
    first | refine O.loadS hE T3 rfl rfl rfl (by rfl) rfl ?_ | refine O.loadE hE T3 rfl rfl (by rfl) rfl ?_ | refine O.load hE T3 rfl rfl rfl rfl ?_
    refine O.field hE L57 rfl rfl rfl rfl ?_
    first | refine O.loadS hE T3 rfl rfl rfl (by rfl) rfl ?_ | refine O.loadE hE T3 rfl rfl (by rfl) rfl ?_ | refine O.load hE T3 rfl rfl rfl rfl ?_
    refine O.callE c2 rfl (by first | rfl | simp [closed, men3, mens2_app, mens2_ints, mens2, men2, men1, mens1_app, mens1_ints, mens1]) (by first | rfl | simp [d2, ds1_ints, ds1_app, ds1, d1, ds0_app, ds0_ints, ds0, d0]) rfl ?_
    refine O.field hE L60 rfl rfl rfl rfl ?_
    refine O.store hE T58 rfl rfl rfl rfl rfl rfl ?_
    refine O.nil ?_
    try refine Run.keep [0, 1, 3, 4, 5, 8, 9, 15, 20, 28] rfl rfl ?_
    repeat (first | refine Run.seq ?_ | refine Run.skip ?_ | refine Run.block ?_)
    refine Run.region ?_
    refine O.load hE T60 rfl rfl rfl rfl ?_
    refine O.store hE T60 rfl rfl rfl rfl rfl rfl ?_
    refine O.nil ?_
    try refine Run.keep [0, 1, 3, 4, 5, 8, 9, 15, 20, 28] rfl rfl ?_
    refine Run.ret ?_
    exact ⟨_, ⟨⟨3, 0, (n : Int), ⟨#[]⟩⟩, .real n hn, rfl⟩, Ends.flat hE (.inr rfl) rfl rfl (AVle.of_eq rfl) rfl⟩
  ·
    repeat (first | refine Run.seq ?_ | refine Run.skip ?_ | refine Run.block ?_)
    refine Run.region ?_
    refine O.box 3 rfl (by first | rfl | exact cells_ones (by simp [ones_app, ones_ints, ones, AV.one, PV.one])) rfl rfl ?_
    refine O.alloc hE 4 T60 rfl rfl rfl ?_
    refine O.nil ?_
    try refine Run.keep [0, 1, 3, 4, 5, 8, 9, 15, 20, 28] rfl rfl ?_
    repeat (first | refine Run.seq ?_ | refine Run.skip ?_ | refine Run.block ?_)
    refine Run.region ?_
    refine O.move rfl rfl ?_
    refine O.build hE T60 L60 rfl rfl rfl ?_
    refine O.alloc hE 5 T60 rfl rfl rfl ?_
    refine O.store hE T60 rfl rfl rfl rfl rfl rfl ?_
    refine O.nil ?_
    try refine Run.keep [0, 1, 3, 4, 5, 8, 9, 15, 20, 28] rfl rfl ?_
    repeat (first | refine Run.seq ?_ | refine Run.skip ?_ | refine Run.block ?_)
    refine Run.region ?_
    refine O.move rfl rfl ?_
    refine O.nil ?_
    try refine Run.keep [0, 1, 3, 4, 5, 8, 9, 15, 20, 28] rfl rfl ?_
    repeat (first | refine Run.seq ?_ | refine Run.skip ?_ | refine Run.block ?_)
    refine Run.region ?_
    first | refine O.cmp rfl rfl rfl (by first | exact decide_eq_true (by omega) | exact decide_eq_false (by omega)) rfl ?_ | refine O.cmp rfl rfl rfl rfl rfl ?_
    refine O.assign rfl rfl ?_
    refine O.nil ?_
    try refine Run.keep [0, 1, 3, 4, 5, 8, 9, 15, 20, 28] rfl rfl ?_
    repeat (first | refine Run.seq ?_ | refine Run.skip ?_)
    first | refine Run.condT rfl rfl ?_ | refine Run.condF rfl rfl ?_ | refine Run.condT rfl (by assumption) ?_ | refine Run.condF rfl (by assumption) ?_
    repeat (first | refine Run.seq ?_ | refine Run.skip ?_ | refine Run.block ?_)
    refine Run.region ?_
    first | refine O.cmp rfl rfl rfl (by first | exact decide_eq_true (by omega) | exact decide_eq_false (by omega)) rfl ?_ | refine O.cmp rfl rfl rfl rfl rfl ?_
    refine O.assign rfl rfl ?_
    refine O.nil ?_
    try refine Run.keep [0, 1, 3, 4, 5, 8, 9, 15, 20, 28] rfl rfl ?_
    repeat (first | refine Run.seq ?_ | refine Run.skip ?_)
    first | refine Run.condT rfl rfl ?_ | refine Run.condF rfl rfl ?_ | refine Run.condT rfl (by assumption) ?_ | refine Run.condF rfl (by assumption) ?_
    repeat (first | refine Run.seq ?_ | refine Run.skip ?_ | refine Run.block ?_)
    refine Run.region ?_
    first | refine O.cmp rfl rfl rfl (by first | exact decide_eq_true (by omega) | exact decide_eq_false (by omega)) rfl ?_ | refine O.cmp rfl rfl rfl rfl rfl ?_
    refine O.assign rfl rfl ?_
    refine O.nil ?_
    try refine Run.keep [0, 1, 3, 4, 5, 8, 9, 15, 20, 28] rfl rfl ?_
    repeat (first | refine Run.seq ?_ | refine Run.skip ?_)
    first | refine Run.condT rfl rfl ?_ | refine Run.condF rfl rfl ?_ | refine Run.condT rfl (by assumption) ?_ | refine Run.condF rfl (by assumption) ?_
    repeat (first | refine Run.seq ?_ | refine Run.skip ?_ | refine Run.block ?_)
    refine Run.region ?_
    first | refine O.cmp rfl rfl rfl (by first | exact decide_eq_true (by omega) | exact decide_eq_false (by omega)) rfl ?_ | refine O.cmp rfl rfl rfl rfl rfl ?_
    refine O.assign rfl rfl ?_
    refine O.nil ?_
    try refine Run.keep [0, 1, 3, 4, 5, 8, 9, 15, 20, 28] rfl rfl ?_
    repeat (first | refine Run.seq ?_ | refine Run.skip ?_)
    first | refine Run.condT rfl rfl ?_ | refine Run.condF rfl rfl ?_ | refine Run.condT rfl (by assumption) ?_ | refine Run.condF rfl (by assumption) ?_
    repeat (first | refine Run.seq ?_ | refine Run.skip ?_ | refine Run.block ?_)
    refine Run.region ?_
    refine O.field hE L57 rfl rfl rfl rfl ?_
    first | refine O.loadS hE T9 rfl rfl rfl (by rfl) rfl ?_ | refine O.loadE hE T9 rfl rfl (by rfl) rfl ?_ | refine O.load hE T9 rfl rfl rfl rfl ?_
    refine O.callE c3 rfl (by first | rfl | simp [closed, men3, mens2_app, mens2_ints, mens2, men2, men1, mens1_app, mens1_ints, mens1]) (by first | rfl | simp [d2, ds1_ints, ds1_app, ds1, d1, ds0_app, ds0_ints, ds0, d0]) rfl ?_
    refine O.field hE L60 rfl rfl rfl rfl ?_
    refine O.store hE T9 rfl rfl rfl rfl rfl rfl ?_
    refine O.nil ?_
    try refine Run.keep [0, 1, 3, 4, 5, 8, 9, 15, 20, 28] rfl rfl ?_
    repeat (first | refine Run.seq ?_ | refine Run.skip ?_ | refine Run.block ?_)
    refine Run.region ?_
    refine O.load hE T60 rfl rfl rfl rfl ?_
    refine O.store hE T60 rfl rfl rfl rfl rfl rfl ?_
    refine O.nil ?_
    try refine Run.keep [0, 1, 3, 4, 5, 8, 9, 15, 20, 28] rfl rfl ?_
    refine Run.ret ?_
    exact ⟨_, ⟨⟨4, 0, 0, t⟩, .text t (by omega) hrun.valid, rfl⟩, Ends.flat hE (.inr rfl) rfl rfl (AVle.of_eq rfl) rfl⟩
theorem val_ex {r : Rw} (hr : RwOk r) : ∃ v : Vl, Good v ∧ FnC (En Tryd.prog g) 19 [.agg [.pv (.int .i64 r.kd), .pv (.int .i64 r.a), .pv (.int .i64 r.b), .pv (.str r.s)]] (vlA v) [] := by
  have hE := EnOk g
  have c1 := fnPick (g := g) (a := r.kd) (m := 5) (by omega) (by omega)
  obtain ⟨v, hv, c2⟩ := valOf_ex (g := g) hr (kd := r.kd % 5) (by omega) (by omega)
  refine ⟨v, hv, ?_⟩
  clear hv
  obtain ⟨rk, a, b, s⟩ := r
  obtain ⟨k, n, bt, t⟩ := v
  dsimp only at c1 c2 ⊢
  generalize rk % 5 = z at *
  refine FnC.of Tryd.func19 rfl rfl rfl rfl ?_
  repeat (first | refine Run.seq ?_ | refine Run.skip ?_ | refine Run.block ?_)
  refine Run.region ?_
  refine O.box 1 rfl (by first | rfl | exact cells_ones (by simp [ones_app, ones_ints, ones, AV.one, PV.one])) rfl rfl ?_
  refine O.alloc hE 2 T60 rfl rfl rfl ?_
  refine O.nil ?_
  try refine Run.keep [0, 1, 2] rfl rfl ?_
  repeat (first | refine Run.seq ?_ | refine Run.skip ?_ | refine Run.block ?_)
  refine Run.draw mixed rfl ?_
  refine D.field hE L57 rfl rfl rfl rfl ?_
  first | refine D.loadS hE T3 rfl rfl rfl (by rfl) rfl ?_ | refine D.loadE hE T3 rfl rfl (by rfl) rfl ?_ | refine D.load hE T3 rfl rfl rfl rfl ?_
  refine D.callE c1 rfl (by first | rfl | simp [closed, men3, mens2_app, mens2_ints, mens2, men2, men1, mens1_app, mens1_ints, mens1]) (by first | rfl | simp [d2, ds1_ints, ds1_app, ds1, d1, ds0_app, ds0_ints, ds0, d0]) rfl ?_
  refine D.load hE T57 rfl rfl rfl rfl ?_
  refine D.callE c2 rfl (by first | rfl | simp [closed, men3, mens2_app, mens2_ints, mens2, men2, men1, mens1_app, mens1_ints, mens1]) (by first | rfl | simp [d2, ds1_ints, ds1_app, ds1, d1, ds0_app, ds0_ints, ds0, d0]) rfl ?_
  refine D.store hE T60 rfl rfl rfl rfl rfl rfl ?_
  refine Dr.nil ?_
  refine ⟨rfl, ?_⟩
  try refine Run.keep [0, 1, 2] rfl rfl ?_
  (repeat (first | refine Run.seq ?_ | refine Run.skip ?_)); (try refine Run.ret ?_); first | exact Ends.flat hE (.inr rfl) rfl rfl (AVle.of_eq rfl) rfl | exact Ends.flat hE (.inl rfl) rfl rfl (AVle.of_eq rfl) rfl
theorem vals_fun : ∃ V : Rw → Vl, ∀ r, RwOk r → Good (V r) ∧ FnC (En Tryd.prog g) 19 [.agg [.pv (.int .i64 r.kd), .pv (.int .i64 r.a), .pv (.int .i64 r.b), .pv (.str r.s)]] (vlA (V r)) [] := by
  have h : ∀ r : Rw, ∃ v : Vl, RwOk r → Good v ∧ FnC (En Tryd.prog g) 19 [.agg [.pv (.int .i64 r.kd), .pv (.int .i64 r.a), .pv (.int .i64 r.b), .pv (.str r.s)]] (vlA v) [] := fun r => by
    by_cases hr : RwOk r
    · obtain ⟨v, h⟩ := val_ex (g := g) hr
      exact ⟨v, fun _ => h⟩
    · exact ⟨⟨0, 0, 0, ⟨#[]⟩⟩, fun h => absurd h hr⟩
  exact ⟨fun r => Classical.choose (h r), fun r => Classical.choose_spec (h r)⟩
theorem valsG_ex {rs : List Rw} (hl : (rs.length : Int) ≤ 9223372036854775807) (hr : ∀ r ∈ rs, RwOk r) : ∃ vs : List Vl, vs.length ≤ 5 ∧ (∀ v ∈ vs, Good v) ∧ FnC (En Tryd.prog g) 10 [.pv (.lst 4 (rs.map rawE))] (.gl 53 vs.length) [(53, .lst 60 4 (vs.map vlE))] := by
  have hE := EnOk g
  obtain ⟨V, hV⟩ := vals_fun (g := g)
  have c1 := fnSome (g := g) (rs := rs) (m := 5) (by omega) hl
  rw [show (5 : Int).toNat = 5 from rfl] at c1
  have hl5 : (rs.take 5).length ≤ 5 := by rw [List.length_take]; omega
  have hr5 : ∀ r ∈ rs.take 5, RwOk r := fun r h => hr r (List.mem_of_mem_take h)
  generalize rs.take 5 = R at *
  have hlen : (R.map rawE).length = R.length := by simp
  refine ⟨R.map V, by simpa using hl5, fun v hv => by obtain ⟨r, h, rfl⟩ := List.mem_map.1 hv; exact (hV r (hr5 r h)).1, ?_⟩
  refine FnC.of Tryd.func10 rfl rfl rfl rfl ?_
  repeat (first | refine Run.seq ?_ | refine Run.skip ?_ | refine Run.block ?_)
  refine Run.region ?_
  refine O.assign rfl rfl ?_
  refine O.nil ?_
  try refine Run.keep [0, 2, 3, 5, 7, 8, 9, 10] rfl rfl ?_
  repeat (first | refine Run.seq ?_ | refine Run.skip ?_ | refine Run.block ?_)
  refine Run.region ?_
  refine O.assign rfl rfl ?_
  refine O.nil ?_
  try refine Run.keep [0, 2, 3, 5, 7, 8, 9, 10] rfl rfl ?_
  repeat (first | refine Run.seq ?_ | refine Run.skip ?_ | refine Run.block ?_)
  refine Run.region ?_
  refine O.move rfl rfl ?_
  refine O.callE c1 rfl (by first | rfl | simp [closed, men3, mens2_app, mens2_ints, mens2, men2, men1, mens1_app, mens1_ints, mens1]) (by first | rfl | simp [d2, ds1_ints, ds1_app, ds1, d1, ds0_app, ds0_ints, ds0, d0]) rfl ?_
  first | refine O.lenN hE T32 rfl rfl rfl (by first | exact newest_pv | exact newest_gl rfl rfl | trivial) lenC rfl ?_ | refine O.lenLst hE T32 rfl rfl rfl (by first | exact newest_pv | exact newest_gl rfl rfl | trivial) rfl ?_
  refine O.move rfl rfl ?_
  refine O.nil ?_
  try refine Run.keep [0, 2, 3, 5, 7, 8, 9, 10] rfl rfl ?_
  refine Run.pre (SLe.nilBox (t := 3) (b := 53) (e := 60) (sz := 4) rfl rfl rfl rfl) ?_
  repeat (first | refine Run.seq ?_ | refine Run.skip ?_)
  refine Run.block ?_
  refine Run.loopInv (ι := Nat) (fun j => j ≤ R.length)
    (fun j => ⟨20, [(3, .gl 53 ((R.take j).map V).length), (7, .pv (.lst 4 (R.map rawE))), (8, .pv (.int .i64 R.length)), (9, .pv (.int .i64 j))], [(53, .lst 60 4 (((R.take j).map V).map vlE))]⟩) (fun j => R.length - j) 0 (by omega) ?_ ?_
  ·
    refine SLe.eqv (by repeat (first | exact TmIn.nil | refine TmIn.cons rfl ?_)) (by repeat (first | exact BxIn.nil | refine BxIn.cons rfl ?_)) rfl
  rintro j hj ih
  by_cases hlt : j < R.length
  ·
    obtain ⟨r, hr0⟩ : ∃ r, R[j] = r := ⟨_, rfl⟩
    have hat : (R.map rawE)[(j : Int).toNat]? = some (rawE r) := by
      rw [Int.toNat_natCast, List.getElem?_map, List.getElem?_eq_getElem hlt, hr0]; rfl
    have htk : (R.take (j + 1)).map V = (R.take j).map V ++ [V r] := by
      rw [List.take_add_one, List.getElem?_eq_getElem hlt, hr0]; simp
    have hQ : ((R.take j).map V).length = j := by simp; omega
    have c2 := (hV r (hr5 r (by rw [← hr0]; exact List.getElem_mem hlt))).2
    repeat (first | refine Run.seq ?_ | refine Run.skip ?_ | refine Run.block ?_)
    refine Run.region ?_
    first | refine O.cmp rfl rfl rfl (by first | exact decide_eq_true (by omega) | exact decide_eq_false (by omega)) rfl ?_ | refine O.cmp rfl rfl rfl rfl rfl ?_
    refine O.nil ?_
    try refine Run.keep [0, 2, 3, 5, 7, 8, 9, 10] rfl rfl ?_
    repeat (first | refine Run.seq ?_ | refine Run.skip ?_)
    first | refine Run.condT rfl rfl ?_ | refine Run.condF rfl rfl ?_ | refine Run.condT rfl (by assumption) ?_ | refine Run.condF rfl (by assumption) ?_
    repeat (first | refine Run.seq ?_ | refine Run.skip ?_ | refine Run.block ?_)
    refine Run.region ?_
    refine O.index hE T32 rfl T57 rfl rfl newest_pv rfl (by omega) hat rfl rfl rfl ?_
    refine O.load hE T57 rfl rfl rfl rfl ?_
    refine O.alloc hE 5 T57 rfl rfl rfl ?_
    refine O.store hE T57 rfl rfl rfl rfl rfl rfl ?_
    refine O.nil ?_
    try refine Run.keep [0, 2, 3, 5, 7, 8, 9, 10] rfl rfl ?_
    repeat (first | refine Run.seq ?_ | refine Run.skip ?_ | refine Run.block ?_)
    refine Run.region ?_
    refine O.move rfl rfl ?_
    refine O.load hE T57 rfl rfl rfl rfl ?_
    refine O.callE c2 rfl (by first | rfl | simp [closed, men3, mens2_app, mens2_ints, mens2, men2, men1, mens1_app, mens1_ints, mens1]) (by first | rfl | simp [d2, ds1_ints, ds1_app, ds1, d1, ds0_app, ds0_ints, ds0, d0]) rfl ?_
    refine O.litV hE T37 rfl T60 rfl rfl rfl rfl rfl rfl rfl ?_
    refine O.appV vlE (q := (R.take j).map V) (r := [V r]) hE T37 rfl T60 rfl rfl rfl rfl rfl newest_pv rfl rfl rfl rfl (by simp; omega) (by simp [maxLen]; omega) rfl ?_
    refine O.assign rfl rfl ?_
    refine O.nil ?_
    try refine Run.keep [0, 2, 3, 5, 7, 8, 9, 10] rfl rfl ?_
    repeat (first | refine Run.seq ?_ | refine Run.skip ?_ | refine Run.block ?_)
    refine Run.region ?_
    first | refine O.ar rfl rfl rfl (by exact wrap_i64 (by omega) (by omega)) rfl ?_ | refine O.ar rfl rfl rfl rfl rfl ?_
    refine O.move rfl rfl ?_
    refine O.nil ?_
    try refine Run.keep [0, 2, 3, 5, 7, 8, 9, 10] rfl rfl ?_
    refine ih (j + 1) _ ?_ (by omega) (by omega)
    rw [htk]
    exact SLe.drop (by repeat (first | exact TmIn.nil | refine TmIn.cons rfl ?_)) (by repeat (first | exact BxIn.nil | refine BxIn.cons rfl ?_)) rfl rfl
  have hj' : j = R.length := by omega
  rw [hj', List.take_length]
  repeat (first | refine Run.seq ?_ | refine Run.skip ?_ | refine Run.block ?_)
  refine Run.region ?_
  first | refine O.cmp rfl rfl rfl (by first | exact decide_eq_true (by omega) | exact decide_eq_false (by omega)) rfl ?_ | refine O.cmp rfl rfl rfl rfl rfl ?_
  refine O.nil ?_
  try refine Run.keep [0, 2, 3, 5, 7, 8, 9, 10] rfl rfl ?_
  repeat (first | refine Run.seq ?_ | refine Run.skip ?_)
  first | refine Run.condT rfl rfl ?_ | refine Run.condF rfl rfl ?_ | refine Run.condT rfl (by assumption) ?_ | refine Run.condF rfl (by assumption) ?_
  refine Run.exit ?_
  repeat (first | refine thenR_exit ?_ | refine roundR_exit ?_ | refine blockR_exit ?_ | refine blockR_pass rfl ?_)
  repeat (first | refine Run.seq ?_ | refine Run.skip ?_ | refine Run.block ?_)
  refine Run.region ?_
  refine O.move rfl rfl ?_
  refine O.assign rfl rfl ?_
  refine O.nil ?_
  try refine Run.keep [0, 2, 3, 5, 7, 8, 9, 10] rfl rfl ?_
  refine Run.ret ?_
  exact Ends.of hE (.inr rfl) rfl rfl (SLe.drop (by repeat (first | exact TmIn.nil | refine TmIn.cons rfl ?_)) (by repeat (first | exact BxIn.nil | refine BxIn.cons rfl ?_)) rfl rfl)
theorem vals_ex {rs : List Rw} (hl : (rs.length : Int) ≤ 9223372036854775807) (hr : ∀ r ∈ rs, RwOk r) : ∃ vs : List Vl, vs.length ≤ 5 ∧ (∀ v ∈ vs, Good v) ∧ FnC (En Tryd.prog g) 10 [.pv (.lst 4 (rs.map rawE))] (.pv (.lst 4 (vs.map vlE))) [] := by
  obtain ⟨vs, h1, h2, c⟩ := valsG_ex (g := g) hl hr
  exact ⟨vs, h1, h2, c.to (SLe.res0 (AVle.lst _ _ _ (lstOf_glV rfl (by simp))) rfl)⟩
end Go.Proofs.YtalcpfpjkfpmbaaDoor.Vm
