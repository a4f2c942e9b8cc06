/- The nodes of an expression: expr.node, nodes, Check. Conditions: what utf8.ValidString answers. -/
import Derived.Test.YtlcmnhocicehmaaDoorKindB
import Derived.Test.YtlcmnhocicehmaaDoorExecT
namespace Go.Proofs.YtlcmnhocicehmaaDoor.Vm
open Go Go.RowKit Go.Lib
set_option linter.unusedVariables false
set_option linter.unusedSimpArgs false
attribute [local irreducible] Ops Dr Run
variable {g : Nat → Option (List PV)}
theorem fnNode (hV : VStr g) {x : Xp} (h : x.wf) : FnC (En Tryd.prog g) 73 [xA x] (.pv (.int .i64 0)) [] := by
  have hE := EnOk g
  refine FnC.of Tryd.func73 rfl rfl rfl rfl ?_
  cases x with
  | lit v =>
    obtain ⟨hv, hn⟩ := h
    have c1 := fnWants0 (g := g) (op := 1) (.inl rfl)
    have hlen : (([] : List PV).length : Int) = 0 := rfl
    have c2 := fnCheck hV hv
    obtain ⟨vk, vn, vb, vs⟩ := v
    dsimp only at hn c2
    dsimp only [xA, Xp.op, Xp.v, Xp.nm, Xp.as]
    clear hv
    repeat (first | refine Run.seq ?_ | refine Run.skip ?_ | refine Run.block ?_)
    refine Run.region ?_
    refine O.box 1 rfl (by first | rfl | exact cells_ones (by simp [ones_app, ones_ints, ones, AV.one, PV.one])) rfl rfl ?_
    refine O.assign rfl rfl ?_
    refine O.nil ?_
    try refine Run.keep [0,1,2,10,17,35,45,60] rfl rfl ?_
    repeat (first | refine Run.seq ?_ | refine Run.skip ?_ | refine Run.block ?_)
    refine Run.region ?_
    refine O.field hE L28 rfl rfl rfl rfl ?_
    first | refine O.loadS hE T3 rfl rfl rfl (by rfl) rfl ?_ | refine O.loadE hE T3 rfl rfl (by rfl) rfl ?_ | refine O.load hE T3 rfl rfl rfl rfl ?_
    first | refine O.cmp rfl rfl rfl (by first | exact dT (by omega) | exact dF (by omega)) rfl ?_ | refine O.cmp rfl rfl rfl rfl rfl ?_
    refine O.move rfl rfl ?_
    first | (refine O.yes rfl rfl (by trivial) ?_; refine O.field hE L28 rfl rfl rfl rfl ?_) | refine O.no rfl rfl rfl rfl ?_
    first | (refine O.yes rfl rfl (by trivial) ?_; first | refine O.loadS hE T3 rfl rfl rfl (by rfl) rfl ?_ | refine O.loadE hE T3 rfl rfl (by rfl) rfl ?_ | refine O.load hE T3 rfl rfl rfl rfl ?_) | refine O.no rfl rfl rfl rfl ?_
    first | (refine O.yes rfl rfl (by trivial) ?_; first | refine O.cmp rfl rfl rfl (by first | exact dT (by omega) | exact dF (by omega)) rfl ?_ | refine O.cmp rfl rfl rfl rfl rfl ?_) | refine O.no rfl rfl rfl rfl ?_
    refine O.pick rfl rfl rfl rfl rfl ?_
    refine O.nil ?_
    try refine Run.keep [0,1,2,10,17,35,45,60] rfl rfl ?_
    repeat (first | refine Run.seq ?_ | refine Run.skip ?_)
    first | refine Run.condT rfl rfl ?_ | refine Run.condF rfl rfl ?_ | refine Run.condT rfl (by assumption) ?_ | refine Run.condF rfl (by assumption) ?_
    repeat (first | refine Run.seq ?_ | refine Run.skip ?_ | refine Run.block ?_)
    refine Run.draw mixed rfl ?_
    refine D.field hE L28 rfl rfl rfl rfl ?_
    first | refine D.loadS hE T26 rfl rfl rfl (by rfl) rfl ?_ | refine D.loadE hE T26 rfl rfl (by rfl) rfl ?_ | refine D.load hE T26 rfl rfl rfl rfl ?_
    refine D.lenK hE T26 rfl rfl hlen rfl ?_
    refine D.field hE L28 rfl rfl rfl rfl ?_
    first | refine D.loadS hE T3 rfl rfl rfl (by rfl) rfl ?_ | refine D.loadE hE T3 rfl rfl (by rfl) rfl ?_ | refine D.load hE T3 rfl rfl rfl rfl ?_
    refine D.callE c1 rfl (by first | rfl | simp [closed, men3, mens2_app, mens2_ints, mens2, men2, men1, mens1_app, mens1_ints, mens1]) (by first | rfl | simp [d2, ds1_ints, ds1_app, ds1, d1, ds0_app, ds0_ints, ds0, d0]) rfl ?_
    first | refine D.cmp rfl rfl rfl (by first | exact dT (by omega) | exact dF (by omega)) rfl ?_ | refine D.cmp rfl rfl rfl rfl rfl ?_
    refine Dr.nil ?_
    refine ⟨rfl, ?_⟩
    try refine Run.keep [0,1,2,10,17,35,45,60] rfl rfl ?_
    repeat (first | refine Run.seq ?_ | refine Run.skip ?_)
    first | refine Run.condT rfl rfl ?_ | refine Run.condF rfl rfl ?_ | refine Run.condT rfl (by assumption) ?_ | refine Run.condF rfl (by assumption) ?_
    repeat (first | refine Run.seq ?_ | refine Run.skip ?_ | refine Run.block ?_)
    refine Run.region ?_
    refine O.field hE L28 rfl rfl rfl rfl ?_
    first | refine O.loadS hE T3 rfl rfl rfl (by rfl) rfl ?_ | refine O.loadE hE T3 rfl rfl (by rfl) rfl ?_ | refine O.load hE T3 rfl rfl rfl rfl ?_
    first | refine O.cmp rfl rfl rfl (by first | exact dT (by omega) | exact dF (by omega)) rfl ?_ | refine O.cmp rfl rfl rfl rfl rfl ?_
    refine O.field hE L28 rfl rfl rfl rfl ?_
    first | refine O.loadS hE T9 rfl rfl rfl (by rfl) rfl ?_ | refine O.loadE hE T9 rfl rfl (by rfl) rfl ?_ | refine O.load hE T9 rfl rfl rfl rfl ?_
    refine O.strNe rfl rfl ne_nil rfl ?_
    refine O.neB rfl rfl hE T4 rfl rfl rfl ?_
    refine O.move rfl rfl ?_
    first | (refine O.yes rfl rfl (by trivial) ?_; refine O.field hE L28 rfl rfl rfl rfl ?_) | refine O.no rfl rfl rfl rfl ?_
    first | (refine O.yes rfl rfl (by trivial) ?_; first | refine O.loadS hE T3 rfl rfl rfl (by rfl) rfl ?_ | refine O.loadE hE T3 rfl rfl (by rfl) rfl ?_ | refine O.load hE T3 rfl rfl rfl rfl ?_) | refine O.no rfl rfl rfl rfl ?_
    first | (refine O.yes rfl rfl (by trivial) ?_; first | refine O.cmp rfl rfl rfl (by first | exact dT (by omega) | exact dF (by omega)) rfl ?_ | refine O.cmp rfl rfl rfl rfl rfl ?_) | refine O.no rfl rfl rfl rfl ?_
    first | (refine O.yes rfl rfl (by trivial) ?_; refine O.move rfl rfl ?_) | refine O.no rfl rfl rfl rfl ?_
    first | (refine O.yes rfl rfl (by trivial) ?_; refine O.field hE L28 rfl rfl rfl rfl ?_) | refine O.no rfl rfl rfl rfl ?_
    first | (refine O.yes rfl rfl (by trivial) ?_; refine O.load hE T25 rfl rfl rfl rfl ?_) | refine O.no rfl rfl rfl rfl ?_
    first | (refine O.yes rfl rfl (by trivial) ?_; refine O.build hE T25 L25 rfl rfl rfl ?_) | refine O.no rfl rfl rfl rfl ?_
    first | (refine O.yes rfl rfl (by trivial) ?_; refine O.no rfl rfl rfl rfl ?_) | refine O.no rfl rfl rfl rfl ?_
    first | (refine O.yes rfl rfl (by trivial) ?_; refine O.pick rfl rfl rfl rfl rfl ?_) | refine O.no rfl rfl rfl rfl ?_
    refine O.pick rfl rfl rfl rfl rfl ?_
    refine O.nil ?_
    try refine Run.keep [0,1,2,10,17,35,45,60] rfl rfl ?_
    repeat (first | refine Run.seq ?_ | refine Run.skip ?_)
    first | refine Run.condT rfl rfl ?_ | refine Run.condF rfl rfl ?_ | refine Run.condT rfl (by assumption) ?_ | refine Run.condF rfl (by assumption) ?_
    repeat (first | refine Run.seq ?_ | refine Run.skip ?_ | refine Run.block ?_)
    refine Run.region ?_
    refine O.field hE L28 rfl rfl rfl rfl ?_
    first | refine O.loadS hE T3 rfl rfl rfl (by rfl) rfl ?_ | refine O.loadE hE T3 rfl rfl (by rfl) rfl ?_ | refine O.load hE T3 rfl rfl rfl rfl ?_
    first | refine O.cmp rfl rfl rfl (by first | exact dT (by omega) | exact dF (by omega)) rfl ?_ | refine O.cmp rfl rfl rfl rfl rfl ?_
    refine O.move rfl rfl ?_
    first | (refine O.yes rfl rfl (by trivial) ?_; refine O.field hE L28 rfl rfl rfl rfl ?_) | refine O.no rfl rfl rfl rfl ?_
    first | (refine O.yes rfl rfl (by trivial) ?_; first | refine O.loadS hE T9 rfl rfl rfl (by rfl) rfl ?_ | refine O.loadE hE T9 rfl rfl (by rfl) rfl ?_ | refine O.load hE T9 rfl rfl rfl rfl ?_) | refine O.no rfl rfl rfl rfl ?_
    first | (refine O.yes rfl rfl (by trivial) ?_; refine O.build hE T105 L105 rfl rfl rfl ?_) | refine O.no rfl rfl rfl rfl ?_
    first | (refine O.yes rfl rfl (by trivial) ?_; refine O.no rfl rfl rfl rfl ?_) | refine O.no rfl rfl rfl rfl ?_
    first | (refine O.yes rfl rfl (by trivial) ?_; first | refine O.cmp rfl rfl rfl (by first | exact dT (by omega) | exact dF (by omega)) rfl ?_ | refine O.cmp rfl rfl rfl rfl rfl ?_) | refine O.no rfl rfl rfl rfl ?_
    refine O.pick rfl rfl rfl rfl rfl ?_
    refine O.nil ?_
    try refine Run.keep [0,1,2,10,17,35,45,60] rfl rfl ?_
    repeat (first | refine Run.seq ?_ | refine Run.skip ?_)
    first | refine Run.condT rfl rfl ?_ | refine Run.condF rfl rfl ?_ | refine Run.condT rfl (by assumption) ?_ | refine Run.condF rfl (by assumption) ?_
    repeat (first | refine Run.seq ?_ | refine Run.skip ?_ | refine Run.block ?_)
    refine Run.region ?_
    refine O.field hE L28 rfl rfl rfl rfl ?_
    first | refine O.loadS hE T3 rfl rfl rfl (by rfl) rfl ?_ | refine O.loadE hE T3 rfl rfl (by rfl) rfl ?_ | refine O.load hE T3 rfl rfl rfl rfl ?_
    first | refine O.cmp rfl rfl rfl (by first | exact dT (by omega) | exact dF (by omega)) rfl ?_ | refine O.cmp rfl rfl rfl rfl rfl ?_
    refine O.move rfl rfl ?_
    first | (refine O.yes rfl rfl (by trivial) ?_; refine O.field hE L28 rfl rfl rfl rfl ?_) | refine O.no rfl rfl rfl rfl ?_
    first | (refine O.yes rfl rfl (by trivial) ?_; refine O.load hE T25 rfl rfl rfl rfl ?_) | refine O.no rfl rfl rfl rfl ?_
    first | (refine O.yes rfl rfl (by trivial) ?_; refine O.callE c2 rfl (by first | rfl | simp [closed, men3, mens2_app, mens2_ints, mens2, men2, men1, mens1_app, mens1_ints, mens1]) (by first | rfl | simp [d2, ds1_ints, ds1_app, ds1, d1, ds0_app, ds0_ints, ds0, d0]) rfl ?_) | refine O.no rfl rfl rfl rfl ?_
    first | (refine O.yes rfl rfl (by trivial) ?_; first | refine O.cmp rfl rfl rfl (by first | exact dT (by omega) | exact dF (by omega)) rfl ?_ | refine O.cmp rfl rfl rfl rfl rfl ?_) | refine O.no rfl rfl rfl rfl ?_
    first | (refine O.yes rfl rfl (by trivial) ?_; refine O.move rfl rfl ?_) | refine O.no rfl rfl rfl rfl ?_
    first | (refine O.yes rfl rfl (by trivial) ?_; refine O.field hE L28 rfl rfl rfl rfl ?_) | refine O.no rfl rfl rfl rfl ?_
    first | (refine O.yes rfl rfl (by trivial) ?_; refine O.field hE L25 rfl rfl rfl rfl ?_) | refine O.no rfl rfl rfl rfl ?_
    first | (refine O.yes rfl rfl (by trivial) ?_; first | refine O.loadS hE T3 rfl rfl rfl (by rfl) rfl ?_ | refine O.loadE hE T3 rfl rfl (by rfl) rfl ?_ | refine O.load hE T3 rfl rfl rfl rfl ?_) | refine O.no rfl rfl rfl rfl ?_
    first | (refine O.yes rfl rfl (by trivial) ?_; first | refine O.cmp rfl rfl rfl (by first | exact dT (by omega) | exact dF (by omega)) rfl ?_ | refine O.cmp rfl rfl rfl rfl rfl ?_) | refine O.no rfl rfl rfl rfl ?_
    first | (refine O.yes rfl rfl (by trivial) ?_; refine O.pick rfl rfl rfl rfl rfl ?_) | refine O.no rfl rfl rfl rfl ?_
    refine O.pick rfl rfl rfl rfl rfl ?_
    refine O.nil ?_
    try refine Run.keep [0,1,2,10,17,35,45,60] rfl rfl ?_
    repeat (first | refine Run.seq ?_ | refine Run.skip ?_)
    first | refine Run.condT rfl rfl ?_ | refine Run.condF rfl rfl ?_ | refine Run.condT rfl (by assumption) ?_ | refine Run.condF rfl (by assumption) ?_
    repeat (first | refine Run.seq ?_ | refine Run.skip ?_ | refine Run.block ?_)
    refine Run.region ?_
    refine O.assign rfl rfl ?_
    refine O.nil ?_
    try refine Run.keep [0,1,2,10,17,35,45,60] rfl rfl ?_
    (repeat (first | refine Run.seq ?_ | refine Run.skip ?_)); (try refine Run.ret ?_); first | exact Ends.flat hE (.inr rfl) rfl rfl (AVle.of_eq rfl) rfl | exact Ends.flat hE (.inl rfl) rfl rfl (AVle.of_eq rfl) rfl
  | col s =>
    have c1 := fnWants0 (g := g) (op := 2) (.inr rfl)
    have hlen : (([] : List PV).length : Int) = 0 := rfl
    have c2 := fnLexName (g := g) h
    have hne := name_ne h
    dsimp only [xA, Xp.op, Xp.v, Xp.nm, Xp.as]
    repeat (first | refine Run.seq ?_ | refine Run.skip ?_ | refine Run.block ?_)
    refine Run.region ?_
    refine O.box 1 rfl (by first | rfl | exact cells_ones (by simp [ones_app, ones_ints, ones, AV.one, PV.one])) rfl rfl ?_
    refine O.assign rfl rfl ?_
    refine O.nil ?_
    try refine Run.keep [0,1,2,10,17,35,45,60] rfl rfl ?_
    repeat (first | refine Run.seq ?_ | refine Run.skip ?_ | refine Run.block ?_)
    refine Run.region ?_
    refine O.field hE L28 rfl rfl rfl rfl ?_
    first | refine O.loadS hE T3 rfl rfl rfl (by rfl) rfl ?_ | refine O.loadE hE T3 rfl rfl (by rfl) rfl ?_ | refine O.load hE T3 rfl rfl rfl rfl ?_
    first | refine O.cmp rfl rfl rfl (by first | exact dT (by omega) | exact dF (by omega)) rfl ?_ | refine O.cmp rfl rfl rfl rfl rfl ?_
    refine O.move rfl rfl ?_
    first | (refine O.yes rfl rfl (by trivial) ?_; refine O.field hE L28 rfl rfl rfl rfl ?_) | refine O.no rfl rfl rfl rfl ?_
    first | (refine O.yes rfl rfl (by trivial) ?_; first | refine O.loadS hE T3 rfl rfl rfl (by rfl) rfl ?_ | refine O.loadE hE T3 rfl rfl (by rfl) rfl ?_ | refine O.load hE T3 rfl rfl rfl rfl ?_) | refine O.no rfl rfl rfl rfl ?_
    first | (refine O.yes rfl rfl (by trivial) ?_; first | refine O.cmp rfl rfl rfl (by first | exact dT (by omega) | exact dF (by omega)) rfl ?_ | refine O.cmp rfl rfl rfl rfl rfl ?_) | refine O.no rfl rfl rfl rfl ?_
    refine O.pick rfl rfl rfl rfl rfl ?_
    refine O.nil ?_
    try refine Run.keep [0,1,2,10,17,35,45,60] rfl rfl ?_
    repeat (first | refine Run.seq ?_ | refine Run.skip ?_)
    first | refine Run.condT rfl rfl ?_ | refine Run.condF rfl rfl ?_ | refine Run.condT rfl (by assumption) ?_ | refine Run.condF rfl (by assumption) ?_
    repeat (first | refine Run.seq ?_ | refine Run.skip ?_ | refine Run.block ?_)
    refine Run.draw mixed rfl ?_
    refine D.field hE L28 rfl rfl rfl rfl ?_
    first | refine D.loadS hE T26 rfl rfl rfl (by rfl) rfl ?_ | refine D.loadE hE T26 rfl rfl (by rfl) rfl ?_ | refine D.load hE T26 rfl rfl rfl rfl ?_
    refine D.lenK hE T26 rfl rfl hlen rfl ?_
    refine D.field hE L28 rfl rfl rfl rfl ?_
    first | refine D.loadS hE T3 rfl rfl rfl (by rfl) rfl ?_ | refine D.loadE hE T3 rfl rfl (by rfl) rfl ?_ | refine D.load hE T3 rfl rfl rfl rfl ?_
    refine D.callE c1 rfl (by first | rfl | simp [closed, men3, mens2_app, mens2_ints, mens2, men2, men1, mens1_app, mens1_ints, mens1]) (by first | rfl | simp [d2, ds1_ints, ds1_app, ds1, d1, ds0_app, ds0_ints, ds0, d0]) rfl ?_
    first | refine D.cmp rfl rfl rfl (by first | exact dT (by omega) | exact dF (by omega)) rfl ?_ | refine D.cmp rfl rfl rfl rfl rfl ?_
    refine Dr.nil ?_
    refine ⟨rfl, ?_⟩
    try refine Run.keep [0,1,2,10,17,35,45,60] rfl rfl ?_
    repeat (first | refine Run.seq ?_ | refine Run.skip ?_)
    first | refine Run.condT rfl rfl ?_ | refine Run.condF rfl rfl ?_ | refine Run.condT rfl (by assumption) ?_ | refine Run.condF rfl (by assumption) ?_
    repeat (first | refine Run.seq ?_ | refine Run.skip ?_ | refine Run.block ?_)
    refine Run.region ?_
    refine O.field hE L28 rfl rfl rfl rfl ?_
    first | refine O.loadS hE T3 rfl rfl rfl (by rfl) rfl ?_ | refine O.loadE hE T3 rfl rfl (by rfl) rfl ?_ | refine O.load hE T3 rfl rfl rfl rfl ?_
    first | refine O.cmp rfl rfl rfl (by first | exact dT (by omega) | exact dF (by omega)) rfl ?_ | refine O.cmp rfl rfl rfl rfl rfl ?_
    refine O.field hE L28 rfl rfl rfl rfl ?_
    first | refine O.loadS hE T9 rfl rfl rfl (by rfl) rfl ?_ | refine O.loadE hE T9 rfl rfl (by rfl) rfl ?_ | refine O.load hE T9 rfl rfl rfl rfl ?_
    refine O.strNe rfl rfl hne rfl ?_
    refine O.neB rfl rfl hE T4 rfl rfl rfl ?_
    refine O.move rfl rfl ?_
    first | (refine O.yes rfl rfl (by trivial) ?_; refine O.field hE L28 rfl rfl rfl rfl ?_) | refine O.no rfl rfl rfl rfl ?_
    first | (refine O.yes rfl rfl (by trivial) ?_; first | refine O.loadS hE T3 rfl rfl rfl (by rfl) rfl ?_ | refine O.loadE hE T3 rfl rfl (by rfl) rfl ?_ | refine O.load hE T3 rfl rfl rfl rfl ?_) | refine O.no rfl rfl rfl rfl ?_
    first | (refine O.yes rfl rfl (by trivial) ?_; first | refine O.cmp rfl rfl rfl (by first | exact dT (by omega) | exact dF (by omega)) rfl ?_ | refine O.cmp rfl rfl rfl rfl rfl ?_) | refine O.no rfl rfl rfl rfl ?_
    first | (refine O.yes rfl rfl (by trivial) ?_; refine O.move rfl rfl ?_) | refine O.no rfl rfl rfl rfl ?_
    first | (refine O.yes rfl rfl (by trivial) ?_; refine O.field hE L28 rfl rfl rfl rfl ?_) | refine O.no rfl rfl rfl rfl ?_
    first | (refine O.yes rfl rfl (by trivial) ?_; refine O.load hE T25 rfl rfl rfl rfl ?_) | refine O.no rfl rfl rfl rfl ?_
    first | (refine O.yes rfl rfl (by trivial) ?_; refine O.build hE T25 L25 rfl rfl rfl ?_) | refine O.no rfl rfl rfl rfl ?_
    first | (refine O.yes rfl rfl (by trivial) ?_; refine O.neAggV rfl rfl rfl (by kernel_rfl) (eq_val2 0 0 0 noS) rfl ?_) | refine O.no rfl rfl rfl rfl ?_
    first | (refine O.yes rfl rfl (by trivial) ?_; refine O.pick rfl rfl rfl rfl rfl ?_) | refine O.no rfl rfl rfl rfl ?_
    refine O.pick rfl rfl rfl rfl rfl ?_
    refine O.nil ?_
    try refine Run.keep [0,1,2,10,17,35,45,60] rfl rfl ?_
    repeat (first | refine Run.seq ?_ | refine Run.skip ?_)
    first | refine Run.condT rfl rfl ?_ | refine Run.condF rfl rfl ?_ | refine Run.condT rfl (by assumption) ?_ | refine Run.condF rfl (by assumption) ?_
    repeat (first | refine Run.seq ?_ | refine Run.skip ?_ | refine Run.block ?_)
    refine Run.region ?_
    refine O.field hE L28 rfl rfl rfl rfl ?_
    first | refine O.loadS hE T3 rfl rfl rfl (by rfl) rfl ?_ | refine O.loadE hE T3 rfl rfl (by rfl) rfl ?_ | refine O.load hE T3 rfl rfl rfl rfl ?_
    first | refine O.cmp rfl rfl rfl (by first | exact dT (by omega) | exact dF (by omega)) rfl ?_ | refine O.cmp rfl rfl rfl rfl rfl ?_
    refine O.move rfl rfl ?_
    first | (refine O.yes rfl rfl (by trivial) ?_; refine O.field hE L28 rfl rfl rfl rfl ?_) | refine O.no rfl rfl rfl rfl ?_
    first | (refine O.yes rfl rfl (by trivial) ?_; first | refine O.loadS hE T9 rfl rfl rfl (by rfl) rfl ?_ | refine O.loadE hE T9 rfl rfl (by rfl) rfl ?_ | refine O.load hE T9 rfl rfl rfl rfl ?_) | refine O.no rfl rfl rfl rfl ?_
    first | (refine O.yes rfl rfl (by trivial) ?_; refine O.build hE T105 L105 rfl rfl rfl ?_) | refine O.no rfl rfl rfl rfl ?_
    first | (refine O.yes rfl rfl (by trivial) ?_; refine O.callE c2 rfl (by first | rfl | simp [closed, men3, mens2_app, mens2_ints, mens2, men2, men1, mens1_app, mens1_ints, mens1]) (by first | rfl | simp [d2, ds1_ints, ds1_app, ds1, d1, ds0_app, ds0_ints, ds0, d0]) rfl ?_) | refine O.no rfl rfl rfl rfl ?_
    first | (refine O.yes rfl rfl (by trivial) ?_; first | refine O.cmp rfl rfl rfl (by first | exact dT (by omega) | exact dF (by omega)) rfl ?_ | refine O.cmp rfl rfl rfl rfl rfl ?_) | refine O.no rfl rfl rfl rfl ?_
    refine O.pick rfl rfl rfl rfl rfl ?_
    refine O.nil ?_
    try refine Run.keep [0,1,2,10,17,35,45,60] rfl rfl ?_
    repeat (first | refine Run.seq ?_ | refine Run.skip ?_)
    first | refine Run.condT rfl rfl ?_ | refine Run.condF rfl rfl ?_ | refine Run.condT rfl (by assumption) ?_ | refine Run.condF rfl (by assumption) ?_
    repeat (first | refine Run.seq ?_ | refine Run.skip ?_ | refine Run.block ?_)
    refine Run.region ?_
    refine O.field hE L28 rfl rfl rfl rfl ?_
    first | refine O.loadS hE T3 rfl rfl rfl (by rfl) rfl ?_ | refine O.loadE hE T3 rfl rfl (by rfl) rfl ?_ | refine O.load hE T3 rfl rfl rfl rfl ?_
    first | refine O.cmp rfl rfl rfl (by first | exact dT (by omega) | exact dF (by omega)) rfl ?_ | refine O.cmp rfl rfl rfl rfl rfl ?_
    refine O.move rfl rfl ?_
    first | (refine O.yes rfl rfl (by trivial) ?_; refine O.field hE L28 rfl rfl rfl rfl ?_) | refine O.no rfl rfl rfl rfl ?_
    first | (refine O.yes rfl rfl (by trivial) ?_; refine O.load hE T25 rfl rfl rfl rfl ?_) | refine O.no rfl rfl rfl rfl ?_
    first | (refine O.yes rfl rfl (by trivial) ?_; refine O.no rfl rfl rfl rfl ?_) | refine O.no rfl rfl rfl rfl ?_
    first | (refine O.yes rfl rfl (by trivial) ?_; first | refine O.cmp rfl rfl rfl (by first | exact dT (by omega) | exact dF (by omega)) rfl ?_ | refine O.cmp rfl rfl rfl rfl rfl ?_) | refine O.no rfl rfl rfl rfl ?_
    first | (refine O.yes rfl rfl (by trivial) ?_; refine O.move rfl rfl ?_) | refine O.no rfl rfl rfl rfl ?_
    first | (refine O.yes rfl rfl (by trivial) ?_; refine O.field hE L28 rfl rfl rfl rfl ?_) | refine O.no rfl rfl rfl rfl ?_
    first | (refine O.yes rfl rfl (by trivial) ?_; refine O.field hE L25 rfl rfl rfl rfl ?_) | refine O.no rfl rfl rfl rfl ?_
    first | (refine O.yes rfl rfl (by trivial) ?_; first | refine O.loadS hE T3 rfl rfl rfl (by rfl) rfl ?_ | refine O.loadE hE T3 rfl rfl (by rfl) rfl ?_ | refine O.load hE T3 rfl rfl rfl rfl ?_) | refine O.no rfl rfl rfl rfl ?_
    first | (refine O.yes rfl rfl (by trivial) ?_; first | refine O.cmp rfl rfl rfl (by first | exact dT (by omega) | exact dF (by omega)) rfl ?_ | refine O.cmp rfl rfl rfl rfl rfl ?_) | refine O.no rfl rfl rfl rfl ?_
    first | (refine O.yes rfl rfl (by trivial) ?_; refine O.pick rfl rfl rfl rfl rfl ?_) | refine O.no rfl rfl rfl rfl ?_
    refine O.pick rfl rfl rfl rfl rfl ?_
    refine O.nil ?_
    try refine Run.keep [0,1,2,10,17,35,45,60] rfl rfl ?_
    repeat (first | refine Run.seq ?_ | refine Run.skip ?_)
    first | refine Run.condT rfl rfl ?_ | refine Run.condF rfl rfl ?_ | refine Run.condT rfl (by assumption) ?_ | refine Run.condF rfl (by assumption) ?_
    repeat (first | refine Run.seq ?_ | refine Run.skip ?_ | refine Run.block ?_)
    refine Run.region ?_
    refine O.assign rfl rfl ?_
    refine O.nil ?_
    try refine Run.keep [0,1,2,10,17,35,45,60] rfl rfl ?_
    (repeat (first | refine Run.seq ?_ | refine Run.skip ?_)); (try refine Run.ret ?_); first | exact Ends.flat hE (.inr rfl) rfl rfl (AVle.of_eq rfl) rfl | exact Ends.flat hE (.inl rfl) rfl rfl (AVle.of_eq rfl) rfl
  | un op a =>
    have c1 := fnWants1 (g := g) h.1
    have ho : op ≠ 1 ∧ op ≠ 2 ∧ 1 ≤ op ∧ op ≤ 20 := by have := h.1; unfold UnOp at this; omega
    obtain ⟨o1, o2, o3, o4⟩ := ho
    clear h
    have hlen : ((Xp.as (.un op a)).length : Int) = 1 := rfl
    dsimp only [xA, Xp.op, Xp.v, Xp.nm]
    generalize Xp.as (.un op a) = qs at *
    repeat (first | refine Run.seq ?_ | refine Run.skip ?_ | refine Run.block ?_)
    refine Run.region ?_
    refine O.box 1 rfl (by first | rfl | exact cells_ones (by simp [ones_app, ones_ints, ones, AV.one, PV.one])) rfl rfl ?_
    refine O.assign rfl rfl ?_
    refine O.nil ?_
    try refine Run.keep [0,1,2,10,17,35,45,60] rfl rfl ?_
    repeat (first | refine Run.seq ?_ | refine Run.skip ?_ | refine Run.block ?_)
    refine Run.region ?_
    refine O.field hE L28 rfl rfl rfl rfl ?_
    first | refine O.loadS hE T3 rfl rfl rfl (by rfl) rfl ?_ | refine O.loadE hE T3 rfl rfl (by rfl) rfl ?_ | refine O.load hE T3 rfl rfl rfl rfl ?_
    first | refine O.cmp rfl rfl rfl (by first | exact dT (by omega) | exact dF (by omega)) rfl ?_ | refine O.cmp rfl rfl rfl rfl rfl ?_
    refine O.move rfl rfl ?_
    first | (refine O.yes rfl rfl (by trivial) ?_; refine O.field hE L28 rfl rfl rfl rfl ?_) | refine O.no rfl rfl rfl rfl ?_
    first | (refine O.yes rfl rfl (by trivial) ?_; first | refine O.loadS hE T3 rfl rfl rfl (by rfl) rfl ?_ | refine O.loadE hE T3 rfl rfl (by rfl) rfl ?_ | refine O.load hE T3 rfl rfl rfl rfl ?_) | refine O.no rfl rfl rfl rfl ?_
    first | (refine O.yes rfl rfl (by trivial) ?_; first | refine O.cmp rfl rfl rfl (by first | exact dT (by omega) | exact dF (by omega)) rfl ?_ | refine O.cmp rfl rfl rfl rfl rfl ?_) | refine O.no rfl rfl rfl rfl ?_
    refine O.pick rfl rfl rfl rfl rfl ?_
    refine O.nil ?_
    try refine Run.keep [0,1,2,10,17,35,45,60] rfl rfl ?_
    repeat (first | refine Run.seq ?_ | refine Run.skip ?_)
    first | refine Run.condT rfl rfl ?_ | refine Run.condF rfl rfl ?_ | refine Run.condT rfl (by assumption) ?_ | refine Run.condF rfl (by assumption) ?_
    repeat (first | refine Run.seq ?_ | refine Run.skip ?_ | refine Run.block ?_)
    refine Run.draw mixed rfl ?_
    refine D.field hE L28 rfl rfl rfl rfl ?_
    first | refine D.loadS hE T26 rfl rfl rfl (by rfl) rfl ?_ | refine D.loadE hE T26 rfl rfl (by rfl) rfl ?_ | refine D.load hE T26 rfl rfl rfl rfl ?_
    refine D.lenK hE T26 rfl rfl hlen rfl ?_
    refine D.field hE L28 rfl rfl rfl rfl ?_
    first | refine D.loadS hE T3 rfl rfl rfl (by rfl) rfl ?_ | refine D.loadE hE T3 rfl rfl (by rfl) rfl ?_ | refine D.load hE T3 rfl rfl rfl rfl ?_
    refine D.callE c1 rfl (by first | rfl | simp [closed, men3, mens2_app, mens2_ints, mens2, men2, men1, mens1_app, mens1_ints, mens1]) (by first | rfl | simp [d2, ds1_ints, ds1_app, ds1, d1, ds0_app, ds0_ints, ds0, d0]) rfl ?_
    first | refine D.cmp rfl rfl rfl (by first | exact dT (by omega) | exact dF (by omega)) rfl ?_ | refine D.cmp rfl rfl rfl rfl rfl ?_
    refine Dr.nil ?_
    refine ⟨rfl, ?_⟩
    try refine Run.keep [0,1,2,10,17,35,45,60] rfl rfl ?_
    repeat (first | refine Run.seq ?_ | refine Run.skip ?_)
    first | refine Run.condT rfl rfl ?_ | refine Run.condF rfl rfl ?_ | refine Run.condT rfl (by assumption) ?_ | refine Run.condF rfl (by assumption) ?_
    repeat (first | refine Run.seq ?_ | refine Run.skip ?_ | refine Run.block ?_)
    refine Run.region ?_
    refine O.field hE L28 rfl rfl rfl rfl ?_
    first | refine O.loadS hE T3 rfl rfl rfl (by rfl) rfl ?_ | refine O.loadE hE T3 rfl rfl (by rfl) rfl ?_ | refine O.load hE T3 rfl rfl rfl rfl ?_
    first | refine O.cmp rfl rfl rfl (by first | exact dT (by omega) | exact dF (by omega)) rfl ?_ | refine O.cmp rfl rfl rfl rfl rfl ?_
    refine O.field hE L28 rfl rfl rfl rfl ?_
    first | refine O.loadS hE T9 rfl rfl rfl (by rfl) rfl ?_ | refine O.loadE hE T9 rfl rfl (by rfl) rfl ?_ | refine O.load hE T9 rfl rfl rfl rfl ?_
    refine O.strNe rfl rfl ne_nil rfl ?_
    refine O.neB rfl rfl hE T4 rfl rfl rfl ?_
    refine O.move rfl rfl ?_
    first | (refine O.yes rfl rfl (by trivial) ?_; refine O.field hE L28 rfl rfl rfl rfl ?_) | refine O.no rfl rfl rfl rfl ?_
    first | (refine O.yes rfl rfl (by trivial) ?_; first | refine O.loadS hE T3 rfl rfl rfl (by rfl) rfl ?_ | refine O.loadE hE T3 rfl rfl (by rfl) rfl ?_ | refine O.load hE T3 rfl rfl rfl rfl ?_) | refine O.no rfl rfl rfl rfl ?_
    first | (refine O.yes rfl rfl (by trivial) ?_; first | refine O.cmp rfl rfl rfl (by first | exact dT (by omega) | exact dF (by omega)) rfl ?_ | refine O.cmp rfl rfl rfl rfl rfl ?_) | refine O.no rfl rfl rfl rfl ?_
    first | (refine O.yes rfl rfl (by trivial) ?_; refine O.move rfl rfl ?_) | refine O.no rfl rfl rfl rfl ?_
    first | (refine O.yes rfl rfl (by trivial) ?_; refine O.field hE L28 rfl rfl rfl rfl ?_) | refine O.no rfl rfl rfl rfl ?_
    first | (refine O.yes rfl rfl (by trivial) ?_; refine O.load hE T25 rfl rfl rfl rfl ?_) | refine O.no rfl rfl rfl rfl ?_
    first | (refine O.yes rfl rfl (by trivial) ?_; refine O.build hE T25 L25 rfl rfl rfl ?_) | refine O.no rfl rfl rfl rfl ?_
    first | (refine O.yes rfl rfl (by trivial) ?_; refine O.neAggV rfl rfl rfl (by kernel_rfl) (eq_val2 0 0 0 noS) rfl ?_) | refine O.no rfl rfl rfl rfl ?_
    first | (refine O.yes rfl rfl (by trivial) ?_; refine O.pick rfl rfl rfl rfl rfl ?_) | refine O.no rfl rfl rfl rfl ?_
    refine O.pick rfl rfl rfl rfl rfl ?_
    refine O.nil ?_
    try refine Run.keep [0,1,2,10,17,35,45,60] rfl rfl ?_
    repeat (first | refine Run.seq ?_ | refine Run.skip ?_)
    first | refine Run.condT rfl rfl ?_ | refine Run.condF rfl rfl ?_ | refine Run.condT rfl (by assumption) ?_ | refine Run.condF rfl (by assumption) ?_
    repeat (first | refine Run.seq ?_ | refine Run.skip ?_ | refine Run.block ?_)
    refine Run.region ?_
    refine O.field hE L28 rfl rfl rfl rfl ?_
    first | refine O.loadS hE T3 rfl rfl rfl (by rfl) rfl ?_ | refine O.loadE hE T3 rfl rfl (by rfl) rfl ?_ | refine O.load hE T3 rfl rfl rfl rfl ?_
    first | refine O.cmp rfl rfl rfl (by first | exact dT (by omega) | exact dF (by omega)) rfl ?_ | refine O.cmp rfl rfl rfl rfl rfl ?_
    refine O.move rfl rfl ?_
    first | (refine O.yes rfl rfl (by trivial) ?_; refine O.field hE L28 rfl rfl rfl rfl ?_) | refine O.no rfl rfl rfl rfl ?_
    first | (refine O.yes rfl rfl (by trivial) ?_; first | refine O.loadS hE T9 rfl rfl rfl (by rfl) rfl ?_ | refine O.loadE hE T9 rfl rfl (by rfl) rfl ?_ | refine O.load hE T9 rfl rfl rfl rfl ?_) | refine O.no rfl rfl rfl rfl ?_
    first | (refine O.yes rfl rfl (by trivial) ?_; refine O.build hE T105 L105 rfl rfl rfl ?_) | refine O.no rfl rfl rfl rfl ?_
    first | (refine O.yes rfl rfl (by trivial) ?_; refine O.no rfl rfl rfl rfl ?_) | refine O.no rfl rfl rfl rfl ?_
    first | (refine O.yes rfl rfl (by trivial) ?_; first | refine O.cmp rfl rfl rfl (by first | exact dT (by omega) | exact dF (by omega)) rfl ?_ | refine O.cmp rfl rfl rfl rfl rfl ?_) | refine O.no rfl rfl rfl rfl ?_
    refine O.pick rfl rfl rfl rfl rfl ?_
    refine O.nil ?_
    try refine Run.keep [0,1,2,10,17,35,45,60] rfl rfl ?_
    repeat (first | refine Run.seq ?_ | refine Run.skip ?_)
    first | refine Run.condT rfl rfl ?_ | refine Run.condF rfl rfl ?_ | refine Run.condT rfl (by assumption) ?_ | refine Run.condF rfl (by assumption) ?_
    repeat (first | refine Run.seq ?_ | refine Run.skip ?_ | refine Run.block ?_)
    refine Run.region ?_
    refine O.field hE L28 rfl rfl rfl rfl ?_
    first | refine O.loadS hE T3 rfl rfl rfl (by rfl) rfl ?_ | refine O.loadE hE T3 rfl rfl (by rfl) rfl ?_ | refine O.load hE T3 rfl rfl rfl rfl ?_
    first | refine O.cmp rfl rfl rfl (by first | exact dT (by omega) | exact dF (by omega)) rfl ?_ | refine O.cmp rfl rfl rfl rfl rfl ?_
    refine O.move rfl rfl ?_
    first | (refine O.yes rfl rfl (by trivial) ?_; refine O.field hE L28 rfl rfl rfl rfl ?_) | refine O.no rfl rfl rfl rfl ?_
    first | (refine O.yes rfl rfl (by trivial) ?_; refine O.load hE T25 rfl rfl rfl rfl ?_) | refine O.no rfl rfl rfl rfl ?_
    first | (refine O.yes rfl rfl (by trivial) ?_; refine O.no rfl rfl rfl rfl ?_) | refine O.no rfl rfl rfl rfl ?_
    first | (refine O.yes rfl rfl (by trivial) ?_; first | refine O.cmp rfl rfl rfl (by first | exact dT (by omega) | exact dF (by omega)) rfl ?_ | refine O.cmp rfl rfl rfl rfl rfl ?_) | refine O.no rfl rfl rfl rfl ?_
    first | (refine O.yes rfl rfl (by trivial) ?_; refine O.move rfl rfl ?_) | refine O.no rfl rfl rfl rfl ?_
    first | (refine O.yes rfl rfl (by trivial) ?_; refine O.field hE L28 rfl rfl rfl rfl ?_) | refine O.no rfl rfl rfl rfl ?_
    first | (refine O.yes rfl rfl (by trivial) ?_; refine O.field hE L25 rfl rfl rfl rfl ?_) | refine O.no rfl rfl rfl rfl ?_
    first | (refine O.yes rfl rfl (by trivial) ?_; first | refine O.loadS hE T3 rfl rfl rfl (by rfl) rfl ?_ | refine O.loadE hE T3 rfl rfl (by rfl) rfl ?_ | refine O.load hE T3 rfl rfl rfl rfl ?_) | refine O.no rfl rfl rfl rfl ?_
    first | (refine O.yes rfl rfl (by trivial) ?_; first | refine O.cmp rfl rfl rfl (by first | exact dT (by omega) | exact dF (by omega)) rfl ?_ | refine O.cmp rfl rfl rfl rfl rfl ?_) | refine O.no rfl rfl rfl rfl ?_
    first | (refine O.yes rfl rfl (by trivial) ?_; refine O.pick rfl rfl rfl rfl rfl ?_) | refine O.no rfl rfl rfl rfl ?_
    refine O.pick rfl rfl rfl rfl rfl ?_
    refine O.nil ?_
    try refine Run.keep [0,1,2,10,17,35,45,60] rfl rfl ?_
    repeat (first | refine Run.seq ?_ | refine Run.skip ?_)
    first | refine Run.condT rfl rfl ?_ | refine Run.condF rfl rfl ?_ | refine Run.condT rfl (by assumption) ?_ | refine Run.condF rfl (by assumption) ?_
    repeat (first | refine Run.seq ?_ | refine Run.skip ?_ | refine Run.block ?_)
    refine Run.region ?_
    refine O.assign rfl rfl ?_
    refine O.nil ?_
    try refine Run.keep [0,1,2,10,17,35,45,60] rfl rfl ?_
    (repeat (first | refine Run.seq ?_ | refine Run.skip ?_)); (try refine Run.ret ?_); first | exact Ends.flat hE (.inr rfl) rfl rfl (AVle.of_eq rfl) rfl | exact Ends.flat hE (.inl rfl) rfl rfl (AVle.of_eq rfl) rfl
  | bi op a b =>
    have c1 := fnWants2 (g := g) h.1
    have ho : op ≠ 1 ∧ op ≠ 2 ∧ 1 ≤ op ∧ op ≤ 20 := by have := h.1; unfold BiOp at this; omega
    obtain ⟨o1, o2, o3, o4⟩ := ho
    clear h
    have hlen : ((Xp.as (.bi op a b)).length : Int) = 2 := rfl
    dsimp only [xA, Xp.op, Xp.v, Xp.nm]
    generalize Xp.as (.bi op a b) = qs at *
    repeat (first | refine Run.seq ?_ | refine Run.skip ?_ | refine Run.block ?_)
    refine Run.region ?_
    refine O.box 1 rfl (by first | rfl | exact cells_ones (by simp [ones_app, ones_ints, ones, AV.one, PV.one])) rfl rfl ?_
    refine O.assign rfl rfl ?_
    refine O.nil ?_
    try refine Run.keep [0,1,2,10,17,35,45,60] rfl rfl ?_
    repeat (first | refine Run.seq ?_ | refine Run.skip ?_ | refine Run.block ?_)
    refine Run.region ?_
    refine O.field hE L28 rfl rfl rfl rfl ?_
    first | refine O.loadS hE T3 rfl rfl rfl (by rfl) rfl ?_ | refine O.loadE hE T3 rfl rfl (by rfl) rfl ?_ | refine O.load hE T3 rfl rfl rfl rfl ?_
    first | refine O.cmp rfl rfl rfl (by first | exact dT (by omega) | exact dF (by omega)) rfl ?_ | refine O.cmp rfl rfl rfl rfl rfl ?_
    refine O.move rfl rfl ?_
    first | (refine O.yes rfl rfl (by trivial) ?_; refine O.field hE L28 rfl rfl rfl rfl ?_) | refine O.no rfl rfl rfl rfl ?_
    first | (refine O.yes rfl rfl (by trivial) ?_; first | refine O.loadS hE T3 rfl rfl rfl (by rfl) rfl ?_ | refine O.loadE hE T3 rfl rfl (by rfl) rfl ?_ | refine O.load hE T3 rfl rfl rfl rfl ?_) | refine O.no rfl rfl rfl rfl ?_
    first | (refine O.yes rfl rfl (by trivial) ?_; first | refine O.cmp rfl rfl rfl (by first | exact dT (by omega) | exact dF (by omega)) rfl ?_ | refine O.cmp rfl rfl rfl rfl rfl ?_) | refine O.no rfl rfl rfl rfl ?_
    refine O.pick rfl rfl rfl rfl rfl ?_
    refine O.nil ?_
    try refine Run.keep [0,1,2,10,17,35,45,60] rfl rfl ?_
    repeat (first | refine Run.seq ?_ | refine Run.skip ?_)
    first | refine Run.condT rfl rfl ?_ | refine Run.condF rfl rfl ?_ | refine Run.condT rfl (by assumption) ?_ | refine Run.condF rfl (by assumption) ?_
    repeat (first | refine Run.seq ?_ | refine Run.skip ?_ | refine Run.block ?_)
    refine Run.draw mixed rfl ?_
    refine D.field hE L28 rfl rfl rfl rfl ?_
    first | refine D.loadS hE T26 rfl rfl rfl (by rfl) rfl ?_ | refine D.loadE hE T26 rfl rfl (by rfl) rfl ?_ | refine D.load hE T26 rfl rfl rfl rfl ?_
    refine D.lenK hE T26 rfl rfl hlen rfl ?_
    refine D.field hE L28 rfl rfl rfl rfl ?_
    first | refine D.loadS hE T3 rfl rfl rfl (by rfl) rfl ?_ | refine D.loadE hE T3 rfl rfl (by rfl) rfl ?_ | refine D.load hE T3 rfl rfl rfl rfl ?_
    refine D.callE c1 rfl (by first | rfl | simp [closed, men3, mens2_app, mens2_ints, mens2, men2, men1, mens1_app, mens1_ints, mens1]) (by first | rfl | simp [d2, ds1_ints, ds1_app, ds1, d1, ds0_app, ds0_ints, ds0, d0]) rfl ?_
    first | refine D.cmp rfl rfl rfl (by first | exact dT (by omega) | exact dF (by omega)) rfl ?_ | refine D.cmp rfl rfl rfl rfl rfl ?_
    refine Dr.nil ?_
    refine ⟨rfl, ?_⟩
    try refine Run.keep [0,1,2,10,17,35,45,60] rfl rfl ?_
    repeat (first | refine Run.seq ?_ | refine Run.skip ?_)
    first | refine Run.condT rfl rfl ?_ | refine Run.condF rfl rfl ?_ | refine Run.condT rfl (by assumption) ?_ | refine Run.condF rfl (by assumption) ?_
    repeat (first | refine Run.seq ?_ | refine Run.skip ?_ | refine Run.block ?_)
    refine Run.region ?_
    refine O.field hE L28 rfl rfl rfl rfl ?_
    first | refine O.loadS hE T3 rfl rfl rfl (by rfl) rfl ?_ | refine O.loadE hE T3 rfl rfl (by rfl) rfl ?_ | refine O.load hE T3 rfl rfl rfl rfl ?_
    first | refine O.cmp rfl rfl rfl (by first | exact dT (by omega) | exact dF (by omega)) rfl ?_ | refine O.cmp rfl rfl rfl rfl rfl ?_
    refine O.field hE L28 rfl rfl rfl rfl ?_
    first | refine O.loadS hE T9 rfl rfl rfl (by rfl) rfl ?_ | refine O.loadE hE T9 rfl rfl (by rfl) rfl ?_ | refine O.load hE T9 rfl rfl rfl rfl ?_
    refine O.strNe rfl rfl ne_nil rfl ?_
    refine O.neB rfl rfl hE T4 rfl rfl rfl ?_
    refine O.move rfl rfl ?_
    first | (refine O.yes rfl rfl (by trivial) ?_; refine O.field hE L28 rfl rfl rfl rfl ?_) | refine O.no rfl rfl rfl rfl ?_
    first | (refine O.yes rfl rfl (by trivial) ?_; first | refine O.loadS hE T3 rfl rfl rfl (by rfl) rfl ?_ | refine O.loadE hE T3 rfl rfl (by rfl) rfl ?_ | refine O.load hE T3 rfl rfl rfl rfl ?_) | refine O.no rfl rfl rfl rfl ?_
    first | (refine O.yes rfl rfl (by trivial) ?_; first | refine O.cmp rfl rfl rfl (by first | exact dT (by omega) | exact dF (by omega)) rfl ?_ | refine O.cmp rfl rfl rfl rfl rfl ?_) | refine O.no rfl rfl rfl rfl ?_
    first | (refine O.yes rfl rfl (by trivial) ?_; refine O.move rfl rfl ?_) | refine O.no rfl rfl rfl rfl ?_
    first | (refine O.yes rfl rfl (by trivial) ?_; refine O.field hE L28 rfl rfl rfl rfl ?_) | refine O.no rfl rfl rfl rfl ?_
    first | (refine O.yes rfl rfl (by trivial) ?_; refine O.load hE T25 rfl rfl rfl rfl ?_) | refine O.no rfl rfl rfl rfl ?_
    first | (refine O.yes rfl rfl (by trivial) ?_; refine O.build hE T25 L25 rfl rfl rfl ?_) | refine O.no rfl rfl rfl rfl ?_
    first | (refine O.yes rfl rfl (by trivial) ?_; refine O.neAggV rfl rfl rfl (by kernel_rfl) (eq_val2 0 0 0 noS) rfl ?_) | refine O.no rfl rfl rfl rfl ?_
    first | (refine O.yes rfl rfl (by trivial) ?_; refine O.pick rfl rfl rfl rfl rfl ?_) | refine O.no rfl rfl rfl rfl ?_
    refine O.pick rfl rfl rfl rfl rfl ?_
    refine O.nil ?_
    try refine Run.keep [0,1,2,10,17,35,45,60] rfl rfl ?_
    repeat (first | refine Run.seq ?_ | refine Run.skip ?_)
    first | refine Run.condT rfl rfl ?_ | refine Run.condF rfl rfl ?_ | refine Run.condT rfl (by assumption) ?_ | refine Run.condF rfl (by assumption) ?_
    repeat (first | refine Run.seq ?_ | refine Run.skip ?_ | refine Run.block ?_)
    refine Run.region ?_
    refine O.field hE L28 rfl rfl rfl rfl ?_
    first | refine O.loadS hE T3 rfl rfl rfl (by rfl) rfl ?_ | refine O.loadE hE T3 rfl rfl (by rfl) rfl ?_ | refine O.load hE T3 rfl rfl rfl rfl ?_
    first | refine O.cmp rfl rfl rfl (by first | exact dT (by omega) | exact dF (by omega)) rfl ?_ | refine O.cmp rfl rfl rfl rfl rfl ?_
    refine O.move rfl rfl ?_
    first | (refine O.yes rfl rfl (by trivial) ?_; refine O.field hE L28 rfl rfl rfl rfl ?_) | refine O.no rfl rfl rfl rfl ?_
    first | (refine O.yes rfl rfl (by trivial) ?_; first | refine O.loadS hE T9 rfl rfl rfl (by rfl) rfl ?_ | refine O.loadE hE T9 rfl rfl (by rfl) rfl ?_ | refine O.load hE T9 rfl rfl rfl rfl ?_) | refine O.no rfl rfl rfl rfl ?_
    first | (refine O.yes rfl rfl (by trivial) ?_; refine O.build hE T105 L105 rfl rfl rfl ?_) | refine O.no rfl rfl rfl rfl ?_
    first | (refine O.yes rfl rfl (by trivial) ?_; refine O.no rfl rfl rfl rfl ?_) | refine O.no rfl rfl rfl rfl ?_
    first | (refine O.yes rfl rfl (by trivial) ?_; first | refine O.cmp rfl rfl rfl (by first | exact dT (by omega) | exact dF (by omega)) rfl ?_ | refine O.cmp rfl rfl rfl rfl rfl ?_) | refine O.no rfl rfl rfl rfl ?_
    refine O.pick rfl rfl rfl rfl rfl ?_
    refine O.nil ?_
    try refine Run.keep [0,1,2,10,17,35,45,60] rfl rfl ?_
    repeat (first | refine Run.seq ?_ | refine Run.skip ?_)
    first | refine Run.condT rfl rfl ?_ | refine Run.condF rfl rfl ?_ | refine Run.condT rfl (by assumption) ?_ | refine Run.condF rfl (by assumption) ?_
    repeat (first | refine Run.seq ?_ | refine Run.skip ?_ | refine Run.block ?_)
    refine Run.region ?_
    refine O.field hE L28 rfl rfl rfl rfl ?_
    first | refine O.loadS hE T3 rfl rfl rfl (by rfl) rfl ?_ | refine O.loadE hE T3 rfl rfl (by rfl) rfl ?_ | refine O.load hE T3 rfl rfl rfl rfl ?_
    first | refine O.cmp rfl rfl rfl (by first | exact dT (by omega) | exact dF (by omega)) rfl ?_ | refine O.cmp rfl rfl rfl rfl rfl ?_
    refine O.move rfl rfl ?_
    first | (refine O.yes rfl rfl (by trivial) ?_; refine O.field hE L28 rfl rfl rfl rfl ?_) | refine O.no rfl rfl rfl rfl ?_
    first | (refine O.yes rfl rfl (by trivial) ?_; refine O.load hE T25 rfl rfl rfl rfl ?_) | refine O.no rfl rfl rfl rfl ?_
    first | (refine O.yes rfl rfl (by trivial) ?_; refine O.no rfl rfl rfl rfl ?_) | refine O.no rfl rfl rfl rfl ?_
    first | (refine O.yes rfl rfl (by trivial) ?_; first | refine O.cmp rfl rfl rfl (by first | exact dT (by omega) | exact dF (by omega)) rfl ?_ | refine O.cmp rfl rfl rfl rfl rfl ?_) | refine O.no rfl rfl rfl rfl ?_
    first | (refine O.yes rfl rfl (by trivial) ?_; refine O.move rfl rfl ?_) | refine O.no rfl rfl rfl rfl ?_
    first | (refine O.yes rfl rfl (by trivial) ?_; refine O.field hE L28 rfl rfl rfl rfl ?_) | refine O.no rfl rfl rfl rfl ?_
    first | (refine O.yes rfl rfl (by trivial) ?_; refine O.field hE L25 rfl rfl rfl rfl ?_) | refine O.no rfl rfl rfl rfl ?_
    first | (refine O.yes rfl rfl (by trivial) ?_; first | refine O.loadS hE T3 rfl rfl rfl (by rfl) rfl ?_ | refine O.loadE hE T3 rfl rfl (by rfl) rfl ?_ | refine O.load hE T3 rfl rfl rfl rfl ?_) | refine O.no rfl rfl rfl rfl ?_
    first | (refine O.yes rfl rfl (by trivial) ?_; first | refine O.cmp rfl rfl rfl (by first | exact dT (by omega) | exact dF (by omega)) rfl ?_ | refine O.cmp rfl rfl rfl rfl rfl ?_) | refine O.no rfl rfl rfl rfl ?_
    first | (refine O.yes rfl rfl (by trivial) ?_; refine O.pick rfl rfl rfl rfl rfl ?_) | refine O.no rfl rfl rfl rfl ?_
    refine O.pick rfl rfl rfl rfl rfl ?_
    refine O.nil ?_
    try refine Run.keep [0,1,2,10,17,35,45,60] rfl rfl ?_
    repeat (first | refine Run.seq ?_ | refine Run.skip ?_)
    first | refine Run.condT rfl rfl ?_ | refine Run.condF rfl rfl ?_ | refine Run.condT rfl (by assumption) ?_ | refine Run.condF rfl (by assumption) ?_
    repeat (first | refine Run.seq ?_ | refine Run.skip ?_ | refine Run.block ?_)
    refine Run.region ?_
    refine O.assign rfl rfl ?_
    refine O.nil ?_
    try refine Run.keep [0,1,2,10,17,35,45,60] rfl rfl ?_
    (repeat (first | refine Run.seq ?_ | refine Run.skip ?_)); (try refine Run.ret ?_); first | exact Ends.flat hE (.inr rfl) rfl rfl (AVle.of_eq rfl) rfl | exact Ends.flat hE (.inl rfl) rfl rfl (AVle.of_eq rfl) rfl
theorem fnNodes (hV : VStr g) : ∀ (x : Xp), x.wf → FnC (En Tryd.prog g) 56 [xA x] (.pv (.int .i64 0)) [] := by
  refine Xp.recArgs fun x ihx hw => ?_
  have hE := EnOk g
  have hal := x.as_len
  have ha2 := x.args_le
  have c0 := fnNode hV hw
  refine FnC.of Tryd.func56 rfl rfl rfl rfl ?_
  repeat (first | refine Run.seq ?_ | refine Run.skip ?_ | refine Run.block ?_)
  refine Run.region ?_
  refine O.box 1 rfl (by first | rfl | exact cells_ones (by simp [ones_app, ones_ints, ones, AV.one, PV.one])) rfl rfl ?_
  refine O.assign rfl rfl ?_
  refine O.nil ?_
  try refine Run.keep [0,1,2,3,5,6,10,13,14,15,16,22] rfl rfl ?_
  repeat (first | refine Run.seq ?_ | refine Run.skip ?_ | refine Run.block ?_)
  refine Run.region ?_
  refine O.load hE T28 rfl rfl rfl rfl ?_
  refine O.callE c0 rfl (by first | rfl | simp [closed, men3, mens2_app, mens2_ints, mens2, men2, men1, mens1_app, mens1_ints, mens1]) (by first | rfl | simp [d2, ds1_ints, ds1_app, ds1, d1, ds0_app, ds0_ints, ds0, d0]) rfl ?_
  refine O.assign rfl rfl ?_
  refine O.nil ?_
  try refine Run.keep [0,1,2,3,5,6,10,13,14,15,16,22] rfl rfl ?_
  repeat (first | refine Run.seq ?_ | refine Run.skip ?_ | refine Run.block ?_)
  refine Run.region ?_
  refine O.move rfl rfl ?_
  first | refine O.cmp rfl rfl rfl (by first | exact dT (by omega) | exact dF (by omega)) rfl ?_ | refine O.cmp rfl rfl rfl rfl rfl ?_
  refine O.nil ?_
  try refine Run.keep [0,1,2,3,5,6,10,13,14,15,16,22] rfl rfl ?_
  repeat (first | refine Run.seq ?_ | refine Run.skip ?_)
  first | refine Run.condT rfl rfl ?_ | refine Run.condF rfl rfl ?_ | refine Run.condT rfl (by assumption) ?_ | refine Run.condF rfl (by assumption) ?_
  repeat (first | refine Run.seq ?_ | refine Run.skip ?_ | refine Run.block ?_)
  refine Run.region ?_
  refine O.field hE L28 rfl rfl rfl rfl ?_
  first | refine O.loadS hE T26 rfl rfl rfl (by rfl) rfl ?_ | refine O.loadE hE T26 rfl rfl (by rfl) rfl ?_ | refine O.load hE T26 rfl rfl rfl rfl ?_
  first | refine O.lenN hE T26 rfl rfl rfl (by first | exact newest_pv | exact newest_gl rfl rfl | trivial) lenC rfl ?_ | refine O.lenLst hE T26 rfl rfl rfl (by first | exact newest_pv | exact newest_gl rfl rfl | trivial) rfl ?_
  refine O.move rfl rfl ?_
  refine O.nil ?_
  try refine Run.keep [0,1,2,3,5,6,10,13,14,15,16,22] rfl rfl ?_
  repeat (first | refine Run.seq ?_ | refine Run.skip ?_)
  refine Run.block ?_
  refine Run.loopInv (ι := Nat) (fun j => j ≤ x.args.length)
    (fun j => ⟨25, [(13, .pv (.lst 7 x.as)), (14, .pv (.int .i64 x.as.length)), (15, .pv (.int .i64 j))], []⟩) (fun j => x.args.length - j) 0 (by omega) ?_ ?_
  ·
    exact SLe.drop (by repeat (first | exact TmIn.nil | refine TmIn.cons rfl ?_)) (by repeat (first | exact BxIn.nil | refine BxIn.cons rfl ?_)) rfl rfl
  rintro j hj ih
  by_cases hlt : j < x.args.length
  ·
    obtain ⟨a, ha⟩ : ∃ a, x.args[j]? = some a := ⟨_, List.getElem?_eq_getElem hlt⟩
    have hm := List.mem_of_getElem? ha
    have hat := Xp.as_at ha
    have c1 := ihx a hm (Xp.arg_wf hm hw)
    repeat (first | refine Run.seq ?_ | refine Run.skip ?_ | refine Run.block ?_)
    refine Run.region ?_
    first | refine O.cmp rfl rfl rfl (by first | exact dT (by omega) | exact dF (by omega)) rfl ?_ | refine O.cmp rfl rfl rfl rfl rfl ?_
    refine O.nil ?_
    try refine Run.keep [0,1,2,3,5,6,10,13,14,15,16,22] rfl rfl ?_
    repeat (first | refine Run.seq ?_ | refine Run.skip ?_)
    first | refine Run.condT rfl rfl ?_ | refine Run.condF rfl rfl ?_ | refine Run.condT rfl (by assumption) ?_ | refine Run.condF rfl (by assumption) ?_
    repeat (first | refine Run.seq ?_ | refine Run.skip ?_ | refine Run.block ?_)
    refine Run.region ?_
    refine O.index hE T26 rfl T28 rfl rfl (by first | exact newest_pv | exact newest_gl rfl rfl | trivial) rfl (by omega) (by first | assumption | rfl) rfl rfl rfl ?_
    refine O.load hE T28 rfl rfl rfl rfl ?_
    refine O.alloc hE 5 T28 rfl rfl rfl ?_
    refine O.store hE T28 rfl rfl rfl rfl rfl rfl ?_
    refine O.nil ?_
    try refine Run.keep [0,1,2,3,5,6,10,13,14,15,16,22] rfl rfl ?_
    repeat (first | refine Run.seq ?_ | refine Run.skip ?_ | refine Run.block ?_)
    refine Run.region ?_
    refine O.load hE T28 rfl rfl rfl rfl ?_
    refine O.callE c1 rfl (by first | rfl | simp [closed, men3, mens2_app, mens2_ints, mens2, men2, men1, mens1_app, mens1_ints, mens1]) (by first | rfl | simp [d2, ds1_ints, ds1_app, ds1, d1, ds0_app, ds0_ints, ds0, d0]) rfl ?_
    refine O.assign rfl rfl ?_
    refine O.nil ?_
    try refine Run.keep [0,1,2,3,5,6,10,13,14,15,16,22] rfl rfl ?_
    repeat (first | refine Run.seq ?_ | refine Run.skip ?_ | refine Run.block ?_)
    refine Run.region ?_
    refine O.move rfl rfl ?_
    first | refine O.cmp rfl rfl rfl (by first | exact dT (by omega) | exact dF (by omega)) rfl ?_ | refine O.cmp rfl rfl rfl rfl rfl ?_
    refine O.nil ?_
    try refine Run.keep [0,1,2,3,5,6,10,13,14,15,16,22] rfl rfl ?_
    repeat (first | refine Run.seq ?_ | refine Run.skip ?_)
    first | refine Run.condT rfl rfl ?_ | refine Run.condF rfl rfl ?_ | refine Run.condT rfl (by assumption) ?_ | refine Run.condF rfl (by assumption) ?_
    repeat (first | refine Run.seq ?_ | refine Run.skip ?_ | refine Run.block ?_)
    refine Run.region ?_
    first | refine O.ar rfl rfl rfl (by exact wrap_i64 (by omega) (by omega)) rfl ?_ | refine O.ar rfl rfl rfl rfl rfl ?_
    refine O.move rfl rfl ?_
    refine O.nil ?_
    try refine Run.keep [0,1,2,3,5,6,10,13,14,15,16,22] rfl rfl ?_
    refine ih (j + 1) _ ?_ (by omega) (by omega)
    exact SLe.drop (by repeat (first | exact TmIn.nil | refine TmIn.cons rfl ?_)) (by repeat (first | exact BxIn.nil | refine BxIn.cons rfl ?_)) rfl rfl
  have hj' : j = x.args.length := by omega
  subst hj'
  repeat (first | refine Run.seq ?_ | refine Run.skip ?_ | refine Run.block ?_)
  refine Run.region ?_
  first | refine O.cmp rfl rfl rfl (by first | exact dT (by omega) | exact dF (by omega)) rfl ?_ | refine O.cmp rfl rfl rfl rfl rfl ?_
  refine O.nil ?_
  try refine Run.keep [0,1,2,3,5,6,10,13,14,15,16,22] rfl rfl ?_
  repeat (first | refine Run.seq ?_ | refine Run.skip ?_)
  first | refine Run.condT rfl rfl ?_ | refine Run.condF rfl rfl ?_ | refine Run.condT rfl (by assumption) ?_ | refine Run.condF rfl (by assumption) ?_
  refine Run.exit ?_
  repeat (first | refine thenR_exit ?_ | refine roundR_exit ?_ | refine blockR_exit ?_ | refine blockR_pass rfl ?_)
  repeat (first | refine Run.seq ?_ | refine Run.skip ?_ | refine Run.block ?_)
  refine Run.region ?_
  refine O.assign rfl rfl ?_
  refine O.nil ?_
  try refine Run.keep [0,1,2,3,5,6,10,13,14,15,16,22] rfl rfl ?_
  (repeat (first | refine Run.seq ?_ | refine Run.skip ?_)); (try refine Run.ret ?_); first | exact Ends.flat hE (.inr rfl) rfl rfl (AVle.of_eq rfl) rfl | exact Ends.flat hE (.inl rfl) rfl rfl (AVle.of_eq rfl) rfl
theorem fnXCheck (hV : VStr g) {x : Xp} (hw : x.wf) (hd : x.dp ≤ 7) (hs : x.sz ≤ 40) : FnC (En Tryd.prog g) 36 [xA x] (.pv (.int .i64 0)) [] := by
  have hE := EnOk g
  have c1 := fnSize (g := g) x 1 (by omega) (by omega) hs
  have c2 := fnNodes hV x hw
  clear hw
  exact FnC.go hE mixed Tryd.func36 [(7, .fn _ _ _ c1), (13, .fn _ _ _ c2)]
end Go.Proofs.YtlcmnhocicehmaaDoor.Vm
