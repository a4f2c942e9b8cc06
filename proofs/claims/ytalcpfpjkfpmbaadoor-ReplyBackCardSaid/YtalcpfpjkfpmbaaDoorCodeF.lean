/- A value's bytes, a row's bytes: their walks. Conditions: what utf8.ValidString answers. -/
import Derived.Test.YtalcpfpjkfpmbaaDoorCodeE
namespace Go.Proofs.YtalcpfpjkfpmbaaDoor.Vm
open Go Go.RowKit Go.Lib
set_option linter.unusedVariables false
set_option linter.unusedSimpArgs false
attribute [local irreducible] Ops Dr Run eightU esc turnU
variable {g : Nat → Option (List PV)}
theorem fnOne {v : Vl} (h : Good v) : FnC (En Tryd.prog g) 28 [vlA v] (.pv (byv (oneP v))) [] := by
  have hE := EnOk g
  cases h with
  | null =>
    show FnC _ _ [.agg [.pv (.int .i64 0), .pv (.int .i64 0), .pv (.int .u64 0), .pv (.str ⟨#[]⟩)]] (.pv (byv [1])) []
    refine FnC.of Tryd.func28 rfl rfl rfl rfl ?_
    repeat (first | refine Run.seq ?_ | refine Run.skip ?_ | refine Run.block ?_)
    refine Run.region ?_
    refine O.box 1 rfl (by first | rfl | exact cells_ones (by simp [ones_app, ones_ints, ones, AV.one, PV.one])) rfl rfl ?_
    refine O.assign rfl rfl ?_
    refine O.nil ?_
    try refine Run.keep [0, 1, 2, 3, 4, 11, 12, 20, 29, 37, 41, 42, 43, 56] rfl rfl ?_
    repeat (first | refine Run.seq ?_ | refine Run.skip ?_ | refine Run.block ?_)
    refine Run.region ?_
    refine O.field hE L60 rfl rfl rfl rfl ?_
    first | refine O.loadS hE T3 rfl rfl rfl (by rfl) rfl ?_ | refine O.loadE hE T3 rfl rfl (by rfl) rfl ?_ | refine O.load hE T3 rfl rfl rfl rfl ?_
    first | refine O.ar rfl rfl rfl (by exact wrap_i64 (by omega) (by omega)) rfl ?_ | refine O.ar rfl rfl rfl rfl rfl ?_
    refine O.conv hE T3 T5 rfl rfl rfl ?_
    refine O.litV hE T27 rfl T5 rfl rfl rfl rfl rfl rfl rfl ?_
    refine O.assign rfl rfl ?_
    refine O.nil ?_
    try refine Run.keep [0, 1, 2, 3, 4, 11, 12, 20, 29, 37, 41, 42, 43, 56] rfl rfl ?_
    repeat (first | refine Run.seq ?_ | refine Run.skip ?_ | refine Run.block ?_)
    refine Run.region ?_
    refine O.field hE L60 rfl rfl rfl rfl ?_
    first | refine O.loadS hE T3 rfl rfl rfl (by rfl) rfl ?_ | refine O.loadE hE T3 rfl rfl (by rfl) rfl ?_ | refine O.load hE T3 rfl rfl rfl rfl ?_
    refine O.nil ?_
    try refine Run.keep [0, 1, 2, 3, 4, 11, 12, 20, 29, 37, 41, 42, 43, 56] rfl rfl ?_
    repeat (first | refine Run.seq ?_ | refine Run.skip ?_ | refine Run.block ?_)
    refine Run.region ?_
    first | refine O.cmp rfl rfl rfl (by first | exact decide_eq_true (by omega) | exact decide_eq_false (by omega)) rfl ?_ | refine O.cmp rfl rfl rfl rfl rfl ?_
    refine O.assign rfl rfl ?_
    refine O.nil ?_
    try refine Run.keep [0, 1, 2, 3, 4, 11, 12, 20, 29, 37, 41, 42, 43, 56] rfl rfl ?_
    repeat (first | refine Run.seq ?_ | refine Run.skip ?_)
    first | refine Run.condT rfl rfl ?_ | refine Run.condF rfl rfl ?_ | refine Run.condT rfl (by assumption) ?_ | refine Run.condF rfl (by assumption) ?_
    repeat (first | refine Run.seq ?_ | refine Run.skip ?_ | refine Run.block ?_)
    refine Run.region ?_
    first | refine O.cmp rfl rfl rfl (by first | exact decide_eq_true (by omega) | exact decide_eq_false (by omega)) rfl ?_ | refine O.cmp rfl rfl rfl rfl rfl ?_
    refine O.assign rfl rfl ?_
    refine O.nil ?_
    try refine Run.keep [0, 1, 2, 3, 4, 11, 12, 20, 29, 37, 41, 42, 43, 56] rfl rfl ?_
    repeat (first | refine Run.seq ?_ | refine Run.skip ?_)
    first | refine Run.condT rfl rfl ?_ | refine Run.condF rfl rfl ?_ | refine Run.condT rfl (by assumption) ?_ | refine Run.condF rfl (by assumption) ?_
    repeat (first | refine Run.seq ?_ | refine Run.skip ?_ | refine Run.block ?_)
    refine Run.region ?_
    first | refine O.cmp rfl rfl rfl (by first | exact decide_eq_true (by omega) | exact decide_eq_false (by omega)) rfl ?_ | refine O.cmp rfl rfl rfl rfl rfl ?_
    refine O.assign rfl rfl ?_
    refine O.nil ?_
    try refine Run.keep [0, 1, 2, 3, 4, 11, 12, 20, 29, 37, 41, 42, 43, 56] rfl rfl ?_
    repeat (first | refine Run.seq ?_ | refine Run.skip ?_)
    first | refine Run.condT rfl rfl ?_ | refine Run.condF rfl rfl ?_ | refine Run.condT rfl (by assumption) ?_ | refine Run.condF rfl (by assumption) ?_
    repeat (first | refine Run.seq ?_ | refine Run.skip ?_ | refine Run.block ?_)
    refine Run.region ?_
    first | refine O.cmp rfl rfl rfl (by first | exact decide_eq_true (by omega) | exact decide_eq_false (by omega)) rfl ?_ | refine O.cmp rfl rfl rfl rfl rfl ?_
    refine O.assign rfl rfl ?_
    refine O.nil ?_
    try refine Run.keep [0, 1, 2, 3, 4, 11, 12, 20, 29, 37, 41, 42, 43, 56] rfl rfl ?_
    repeat (first | refine Run.seq ?_ | refine Run.skip ?_)
    first | refine Run.condT rfl rfl ?_ | refine Run.condF rfl rfl ?_ | refine Run.condT rfl (by assumption) ?_ | refine Run.condF rfl (by assumption) ?_
    repeat (first | refine Run.seq ?_ | refine Run.skip ?_ | refine Run.block ?_)
    refine Run.region ?_
    refine O.move rfl rfl ?_
    refine O.assign rfl rfl ?_
    refine O.nil ?_
    try refine Run.keep [0, 1, 2, 3, 4, 11, 12, 20, 29, 37, 41, 42, 43, 56] rfl rfl ?_
    (repeat (first | refine Run.seq ?_ | refine Run.skip ?_)); (try refine Run.ret ?_); first | exact Ends.flat hE (.inr rfl) rfl rfl (AVle.of_eq rfl) rfl | exact Ends.flat hE (.inl rfl) rfl rfl (AVle.of_eq rfl) rfl
  | bool n hn =>
    show FnC _ _ [.agg [.pv (.int .i64 1), .pv (.int .i64 n), .pv (.int .u64 0), .pv (.str ⟨#[]⟩)]] (.pv (byv [2, IntKind.u8.wrap n])) []
    refine FnC.of Tryd.func28 rfl rfl rfl rfl ?_
    repeat (first | refine Run.seq ?_ | refine Run.skip ?_ | refine Run.block ?_)
    refine Run.region ?_
    refine O.box 1 rfl (by first | rfl | exact cells_ones (by simp [ones_app, ones_ints, ones, AV.one, PV.one])) rfl rfl ?_
    refine O.assign rfl rfl ?_
    refine O.nil ?_
    try refine Run.keep [0, 1, 2, 3, 4, 11, 12, 20, 29, 37, 41, 42, 43, 56] rfl rfl ?_
    repeat (first | refine Run.seq ?_ | refine Run.skip ?_ | refine Run.block ?_)
    refine Run.region ?_
    refine O.field hE L60 rfl rfl rfl rfl ?_
    first | refine O.loadS hE T3 rfl rfl rfl (by rfl) rfl ?_ | refine O.loadE hE T3 rfl rfl (by rfl) rfl ?_ | refine O.load hE T3 rfl rfl rfl rfl ?_
    first | refine O.ar rfl rfl rfl (by exact wrap_i64 (by omega) (by omega)) rfl ?_ | refine O.ar rfl rfl rfl rfl rfl ?_
    refine O.conv hE T3 T5 rfl rfl rfl ?_
    refine O.lit hE 9 T27 rfl T5 rfl rfl rfl rfl rfl rfl rfl rfl ?_
    refine O.assign rfl rfl ?_
    refine O.nil ?_
    try refine Run.keep [0, 1, 2, 3, 4, 11, 12, 20, 29, 37, 41, 42, 43, 56] rfl rfl ?_
    repeat (first | refine Run.seq ?_ | refine Run.skip ?_ | refine Run.block ?_)
    refine Run.region ?_
    refine O.field hE L60 rfl rfl rfl rfl ?_
    first | refine O.loadS hE T3 rfl rfl rfl (by rfl) rfl ?_ | refine O.loadE hE T3 rfl rfl (by rfl) rfl ?_ | refine O.load hE T3 rfl rfl rfl rfl ?_
    refine O.nil ?_
    try refine Run.keep [0, 1, 2, 3, 4, 11, 12, 20, 29, 37, 41, 42, 43, 56] rfl rfl ?_
    repeat (first | refine Run.seq ?_ | refine Run.skip ?_ | refine Run.block ?_)
    refine Run.region ?_
    first | refine O.cmp rfl rfl rfl (by first | exact decide_eq_true (by omega) | exact decide_eq_false (by omega)) rfl ?_ | refine O.cmp rfl rfl rfl rfl rfl ?_
    refine O.assign rfl rfl ?_
    refine O.nil ?_
    try refine Run.keep [0, 1, 2, 3, 4, 11, 12, 20, 29, 37, 41, 42, 43, 56] rfl rfl ?_
    repeat (first | refine Run.seq ?_ | refine Run.skip ?_)
    first | refine Run.condT rfl rfl ?_ | refine Run.condF rfl rfl ?_ | refine Run.condT rfl (by assumption) ?_ | refine Run.condF rfl (by assumption) ?_
    repeat (first | refine Run.seq ?_ | refine Run.skip ?_ | refine Run.block ?_)
    refine Run.region ?_
    refine O.move rfl rfl ?_
    refine O.field hE L60 rfl rfl rfl rfl ?_
    first | refine O.loadS hE T3 rfl rfl rfl (by rfl) rfl ?_ | refine O.loadE hE T3 rfl rfl (by rfl) rfl ?_ | refine O.load hE T3 rfl rfl rfl rfl ?_
    refine O.conv hE T3 T5 rfl rfl rfl ?_
    refine O.litV hE T27 rfl T5 rfl rfl rfl rfl rfl rfl rfl ?_
    refine O.appV (PV.int .u8) (q := [2]) (r := [IntKind.u8.wrap n]) hE T27 rfl T5 rfl rfl rfl rfl rfl newest_pv rfl rfl rfl rfl (by simp) (by simp [maxLen]) rfl ?_
    refine O.assign rfl rfl ?_
    refine O.nil ?_
    try refine Run.keep [0, 1, 2, 3, 4, 11, 12, 20, 29, 37, 41, 42, 43, 56] rfl rfl ?_
    refine Run.ret ?_
    exact Ends.of hE (.inr rfl) rfl rfl (SLe.res0 (AVle.lst _ _ _ (lstOf_glV rfl (by simp))) rfl)
  | int n hn =>
    show FnC _ _ [.agg [.pv (.int .i64 2), .pv (.int .i64 n), .pv (.int .u64 0), .pv (.str ⟨#[]⟩)]] (.pv (byv (3 :: eightU (n + 9223372036854775808).toNat))) []
    have c1 := fnEightU (g := g) (n + 9223372036854775808).toNat (by omega)
    have hx : bitI .xor .u64 (IntKind.u64.wrap n) 9223372036854775808 = some (((n + 9223372036854775808).toNat : Nat) : Int) := by
      obtain ⟨M, e, hM⟩ := nat_u64 n
      have h1 := u64_xor_nat M 9223372036854775808 hM (by decide)
      rw [top_xor M hM] at h1
      rw [e]
      refine congrArg some (h1.trans ?_)
      rw [IntKind.wrap_u64] at e
      split <;> omega
    have hl := eightU_len (n + 9223372036854775808).toNat
    generalize (n + 9223372036854775808).toNat = N at *
    generalize eightU N = R at *
    refine FnC.of Tryd.func28 rfl rfl rfl rfl ?_
    repeat (first | refine Run.seq ?_ | refine Run.skip ?_ | refine Run.block ?_)
    refine Run.region ?_
    refine O.box 1 rfl (by first | rfl | exact cells_ones (by simp [ones_app, ones_ints, ones, AV.one, PV.one])) rfl rfl ?_
    refine O.assign rfl rfl ?_
    refine O.nil ?_
    try refine Run.keep [0, 1, 2, 3, 4, 11, 12, 20, 29, 37, 41, 42, 43, 56] rfl rfl ?_
    repeat (first | refine Run.seq ?_ | refine Run.skip ?_ | refine Run.block ?_)
    refine Run.region ?_
    refine O.field hE L60 rfl rfl rfl rfl ?_
    first | refine O.loadS hE T3 rfl rfl rfl (by rfl) rfl ?_ | refine O.loadE hE T3 rfl rfl (by rfl) rfl ?_ | refine O.load hE T3 rfl rfl rfl rfl ?_
    first | refine O.ar rfl rfl rfl (by exact wrap_i64 (by omega) (by omega)) rfl ?_ | refine O.ar rfl rfl rfl rfl rfl ?_
    refine O.conv hE T3 T5 rfl rfl rfl ?_
    refine O.lit hE 9 T27 rfl T5 rfl rfl rfl rfl rfl rfl rfl rfl ?_
    refine O.assign rfl rfl ?_
    refine O.nil ?_
    try refine Run.keep [0, 1, 2, 3, 4, 11, 12, 20, 29, 37, 41, 42, 43, 56] rfl rfl ?_
    repeat (first | refine Run.seq ?_ | refine Run.skip ?_ | refine Run.block ?_)
    refine Run.region ?_
    refine O.field hE L60 rfl rfl rfl rfl ?_
    first | refine O.loadS hE T3 rfl rfl rfl (by rfl) rfl ?_ | refine O.loadE hE T3 rfl rfl (by rfl) rfl ?_ | refine O.load hE T3 rfl rfl rfl rfl ?_
    refine O.nil ?_
    try refine Run.keep [0, 1, 2, 3, 4, 11, 12, 20, 29, 37, 41, 42, 43, 56] rfl rfl ?_
    repeat (first | refine Run.seq ?_ | refine Run.skip ?_ | refine Run.block ?_)
    refine Run.region ?_
    first | refine O.cmp rfl rfl rfl (by first | exact decide_eq_true (by omega) | exact decide_eq_false (by omega)) rfl ?_ | refine O.cmp rfl rfl rfl rfl rfl ?_
    refine O.assign rfl rfl ?_
    refine O.nil ?_
    try refine Run.keep [0, 1, 2, 3, 4, 11, 12, 20, 29, 37, 41, 42, 43, 56] rfl rfl ?_
    repeat (first | refine Run.seq ?_ | refine Run.skip ?_)
    first | refine Run.condT rfl rfl ?_ | refine Run.condF rfl rfl ?_ | refine Run.condT rfl (by assumption) ?_ | refine Run.condF rfl (by assumption) ?_
    repeat (first | refine Run.seq ?_ | refine Run.skip ?_ | refine Run.block ?_)
    refine Run.region ?_
    first | refine O.cmp rfl rfl rfl (by first | exact decide_eq_true (by omega) | exact decide_eq_false (by omega)) rfl ?_ | refine O.cmp rfl rfl rfl rfl rfl ?_
    refine O.assign rfl rfl ?_
    refine O.nil ?_
    try refine Run.keep [0, 1, 2, 3, 4, 11, 12, 20, 29, 37, 41, 42, 43, 56] rfl rfl ?_
    repeat (first | refine Run.seq ?_ | refine Run.skip ?_)
    first | refine Run.condT rfl rfl ?_ | refine Run.condF rfl rfl ?_ | refine Run.condT rfl (by assumption) ?_ | refine Run.condF rfl (by assumption) ?_
    repeat (first | refine Run.seq ?_ | refine Run.skip ?_ | refine Run.block ?_)
    refine Run.region ?_
    refine O.move rfl rfl ?_
    refine O.field hE L60 rfl rfl rfl rfl ?_
    first | refine O.loadS hE T3 rfl rfl rfl (by rfl) rfl ?_ | refine O.loadE hE T3 rfl rfl (by rfl) rfl ?_ | refine O.load hE T3 rfl rfl rfl rfl ?_
    refine O.conv hE T3 T58 rfl rfl rfl ?_
    refine O.bit rfl rfl hx rfl ?_
    refine O.callE c1 rfl (by first | rfl | simp [closed, men3, mens2_app, mens2_ints, mens2, men2, men1, mens1_app, mens1_ints, mens1]) (by first | rfl | simp [d2, ds1_ints, ds1_app, ds1, d1, ds0_app, ds0_ints, ds0, d0]) rfl ?_
    refine O.appV (PV.int .u8) (q := [3]) (r := R) hE T27 rfl T5 rfl rfl rfl rfl rfl newest_pv rfl rfl rfl rfl (by simp; omega) (by simp [maxLen]; omega) rfl ?_
    refine O.assign rfl rfl ?_
    refine O.nil ?_
    try refine Run.keep [0, 1, 2, 3, 4, 11, 12, 20, 29, 37, 41, 42, 43, 56] rfl rfl ?_
    refine Run.ret ?_
    exact Ends.of hE (.inr rfl) rfl rfl (SLe.res0 (AVle.lst _ _ _ (lstOf_glV rfl (by simp))) rfl)
  | real n hn =>
    show FnC _ _ [.agg [.pv (.int .i64 3), .pv (.int .i64 0), .pv (.int .u64 (n : Int)), .pv (.str ⟨#[]⟩)]] (.pv (byv (4 :: eightU (turnU (n : Int).toNat)))) []
    rw [Int.toNat_natCast]
    have hlt : turnU n < 18446744073709551616 := by unfold turnU; have := hn.1; split <;> omega
    have c1 := fnTurned (g := g) n hn.1
    have c2 := fnEightU (g := g) (turnU n) hlt
    have hl := eightU_len (turnU n)
    generalize eightU (turnU n) = R at *
    generalize turnU n = M at *
    refine FnC.of Tryd.func28 rfl rfl rfl rfl ?_
    repeat (first | refine Run.seq ?_ | refine Run.skip ?_ | refine Run.block ?_)
    refine Run.region ?_
    refine O.box 1 rfl (by first | rfl | exact cells_ones (by simp [ones_app, ones_ints, ones, AV.one, PV.one])) rfl rfl ?_
    refine O.assign rfl rfl ?_
    refine O.nil ?_
    try refine Run.keep [0, 1, 2, 3, 4, 11, 12, 20, 29, 37, 41, 42, 43, 56] rfl rfl ?_
    repeat (first | refine Run.seq ?_ | refine Run.skip ?_ | refine Run.block ?_)
    refine Run.region ?_
    refine O.field hE L60 rfl rfl rfl rfl ?_
    first | refine O.loadS hE T3 rfl rfl rfl (by rfl) rfl ?_ | refine O.loadE hE T3 rfl rfl (by rfl) rfl ?_ | refine O.load hE T3 rfl rfl rfl rfl ?_
    first | refine O.ar rfl rfl rfl (by exact wrap_i64 (by omega) (by omega)) rfl ?_ | refine O.ar rfl rfl rfl rfl rfl ?_
    refine O.conv hE T3 T5 rfl rfl rfl ?_
    refine O.lit hE 9 T27 rfl T5 rfl rfl rfl rfl rfl rfl rfl rfl ?_
    refine O.assign rfl rfl ?_
    refine O.nil ?_
    try refine Run.keep [0, 1, 2, 3, 4, 11, 12, 20, 29, 37, 41, 42, 43, 56] rfl rfl ?_
    repeat (first | refine Run.seq ?_ | refine Run.skip ?_ | refine Run.block ?_)
    refine Run.region ?_
    refine O.field hE L60 rfl rfl rfl rfl ?_
    first | refine O.loadS hE T3 rfl rfl rfl (by rfl) rfl ?_ | refine O.loadE hE T3 rfl rfl (by rfl) rfl ?_ | refine O.load hE T3 rfl rfl rfl rfl ?_
    refine O.nil ?_
    try refine Run.keep [0, 1, 2, 3, 4, 11, 12, 20, 29, 37, 41, 42, 43, 56] rfl rfl ?_
    repeat (first | refine Run.seq ?_ | refine Run.skip ?_ | refine Run.block ?_)
    refine Run.region ?_
    first | refine O.cmp rfl rfl rfl (by first | exact decide_eq_true (by omega) | exact decide_eq_false (by omega)) rfl ?_ | refine O.cmp rfl rfl rfl rfl rfl ?_
    refine O.assign rfl rfl ?_
    refine O.nil ?_
    try refine Run.keep [0, 1, 2, 3, 4, 11, 12, 20, 29, 37, 41, 42, 43, 56] rfl rfl ?_
    repeat (first | refine Run.seq ?_ | refine Run.skip ?_)
    first | refine Run.condT rfl rfl ?_ | refine Run.condF rfl rfl ?_ | refine Run.condT rfl (by assumption) ?_ | refine Run.condF rfl (by assumption) ?_
    repeat (first | refine Run.seq ?_ | refine Run.skip ?_ | refine Run.block ?_)
    refine Run.region ?_
    first | refine O.cmp rfl rfl rfl (by first | exact decide_eq_true (by omega) | exact decide_eq_false (by omega)) rfl ?_ | refine O.cmp rfl rfl rfl rfl rfl ?_
    refine O.assign rfl rfl ?_
    refine O.nil ?_
    try refine Run.keep [0, 1, 2, 3, 4, 11, 12, 20, 29, 37, 41, 42, 43, 56] rfl rfl ?_
    repeat (first | refine Run.seq ?_ | refine Run.skip ?_)
    first | refine Run.condT rfl rfl ?_ | refine Run.condF rfl rfl ?_ | refine Run.condT rfl (by assumption) ?_ | refine Run.condF rfl (by assumption) ?_
    repeat (first | refine Run.seq ?_ | refine Run.skip ?_ | refine Run.block ?_)
    refine Run.region ?_
    first | refine O.cmp rfl rfl rfl (by first | exact decide_eq_true (by omega) | exact decide_eq_false (by omega)) rfl ?_ | refine O.cmp rfl rfl rfl rfl rfl ?_
    refine O.assign rfl rfl ?_
    refine O.nil ?_
    try refine Run.keep [0, 1, 2, 3, 4, 11, 12, 20, 29, 37, 41, 42, 43, 56] rfl rfl ?_
    repeat (first | refine Run.seq ?_ | refine Run.skip ?_)
    first | refine Run.condT rfl rfl ?_ | refine Run.condF rfl rfl ?_ | refine Run.condT rfl (by assumption) ?_ | refine Run.condF rfl (by assumption) ?_
    repeat (first | refine Run.seq ?_ | refine Run.skip ?_ | refine Run.block ?_)
    refine Run.region ?_
    refine O.move rfl rfl ?_
    refine O.field hE L60 rfl rfl rfl rfl ?_
    first | refine O.loadS hE T58 rfl rfl rfl (by rfl) rfl ?_ | refine O.loadE hE T58 rfl rfl (by rfl) rfl ?_ | refine O.load hE T58 rfl rfl rfl rfl ?_
    refine O.callE c1 rfl (by first | rfl | simp [closed, men3, mens2_app, mens2_ints, mens2, men2, men1, mens1_app, mens1_ints, mens1]) (by first | rfl | simp [d2, ds1_ints, ds1_app, ds1, d1, ds0_app, ds0_ints, ds0, d0]) rfl ?_
    refine O.callE c2 rfl (by first | rfl | simp [closed, men3, mens2_app, mens2_ints, mens2, men2, men1, mens1_app, mens1_ints, mens1]) (by first | rfl | simp [d2, ds1_ints, ds1_app, ds1, d1, ds0_app, ds0_ints, ds0, d0]) rfl ?_
    refine O.appV (PV.int .u8) (q := [4]) (r := R) hE T27 rfl T5 rfl rfl rfl rfl rfl newest_pv rfl rfl rfl rfl (by simp; omega) (by simp [maxLen]; omega) rfl ?_
    refine O.assign rfl rfl ?_
    refine O.nil ?_
    try refine Run.keep [0, 1, 2, 3, 4, 11, 12, 20, 29, 37, 41, 42, 43, 56] rfl rfl ?_
    refine Run.ret ?_
    exact Ends.of hE (.inr rfl) rfl rfl (SLe.res0 (AVle.lst _ _ _ (lstOf_glV rfl (by simp))) rfl)
  | text s hs hv =>
    show FnC _ _ [.agg [.pv (.int .i64 4), .pv (.int .i64 0), .pv (.int .u64 0), .pv (.str s)]] (.pv (byv (5 :: (esc (txB s) ++ [0, 1])))) []
    have hL : (txB s).length = s.size := by simp [txB]
    refine FnC.of Tryd.func28 rfl rfl rfl rfl ?_
    repeat (first | refine Run.seq ?_ | refine Run.skip ?_ | refine Run.block ?_)
    refine Run.region ?_
    refine O.box 1 rfl (by first | rfl | exact cells_ones (by simp [ones_app, ones_ints, ones, AV.one, PV.one])) rfl rfl ?_
    refine O.assign rfl rfl ?_
    refine O.nil ?_
    try refine Run.keep [0, 1, 2, 3, 4, 11, 12, 20, 29, 37, 41, 42, 43, 56] rfl rfl ?_
    repeat (first | refine Run.seq ?_ | refine Run.skip ?_ | refine Run.block ?_)
    refine Run.region ?_
    refine O.field hE L60 rfl rfl rfl rfl ?_
    first | refine O.loadS hE T3 rfl rfl rfl (by rfl) rfl ?_ | refine O.loadE hE T3 rfl rfl (by rfl) rfl ?_ | refine O.load hE T3 rfl rfl rfl rfl ?_
    first | refine O.ar rfl rfl rfl (by exact wrap_i64 (by omega) (by omega)) rfl ?_ | refine O.ar rfl rfl rfl rfl rfl ?_
    refine O.conv hE T3 T5 rfl rfl rfl ?_
    refine O.lit hE 9 T27 rfl T5 rfl rfl rfl rfl rfl rfl rfl rfl ?_
    refine O.assign rfl rfl ?_
    refine O.nil ?_
    try refine Run.keep [0, 1, 2, 3, 4, 11, 12, 20, 29, 37, 41, 42, 43, 56] rfl rfl ?_
    repeat (first | refine Run.seq ?_ | refine Run.skip ?_ | refine Run.block ?_)
    refine Run.region ?_
    refine O.field hE L60 rfl rfl rfl rfl ?_
    first | refine O.loadS hE T3 rfl rfl rfl (by rfl) rfl ?_ | refine O.loadE hE T3 rfl rfl (by rfl) rfl ?_ | refine O.load hE T3 rfl rfl rfl rfl ?_
    refine O.nil ?_
    try refine Run.keep [0, 1, 2, 3, 4, 11, 12, 20, 29, 37, 41, 42, 43, 56] rfl rfl ?_
    repeat (first | refine Run.seq ?_ | refine Run.skip ?_ | refine Run.block ?_)
    refine Run.region ?_
    first | refine O.cmp rfl rfl rfl (by first | exact decide_eq_true (by omega) | exact decide_eq_false (by omega)) rfl ?_ | refine O.cmp rfl rfl rfl rfl rfl ?_
    refine O.assign rfl rfl ?_
    refine O.nil ?_
    try refine Run.keep [0, 1, 2, 3, 4, 11, 12, 20, 29, 37, 41, 42, 43, 56] rfl rfl ?_
    repeat (first | refine Run.seq ?_ | refine Run.skip ?_)
    first | refine Run.condT rfl rfl ?_ | refine Run.condF rfl rfl ?_ | refine Run.condT rfl (by assumption) ?_ | refine Run.condF rfl (by assumption) ?_
    repeat (first | refine Run.seq ?_ | refine Run.skip ?_ | refine Run.block ?_)
    refine Run.region ?_
    first | refine O.cmp rfl rfl rfl (by first | exact decide_eq_true (by omega) | exact decide_eq_false (by omega)) rfl ?_ | refine O.cmp rfl rfl rfl rfl rfl ?_
    refine O.assign rfl rfl ?_
    refine O.nil ?_
    try refine Run.keep [0, 1, 2, 3, 4, 11, 12, 20, 29, 37, 41, 42, 43, 56] rfl rfl ?_
    repeat (first | refine Run.seq ?_ | refine Run.skip ?_)
    first | refine Run.condT rfl rfl ?_ | refine Run.condF rfl rfl ?_ | refine Run.condT rfl (by assumption) ?_ | refine Run.condF rfl (by assumption) ?_
    repeat (first | refine Run.seq ?_ | refine Run.skip ?_ | refine Run.block ?_)
    refine Run.region ?_
    first | refine O.cmp rfl rfl rfl (by first | exact decide_eq_true (by omega) | exact decide_eq_false (by omega)) rfl ?_ | refine O.cmp rfl rfl rfl rfl rfl ?_
    refine O.assign rfl rfl ?_
    refine O.nil ?_
    try refine Run.keep [0, 1, 2, 3, 4, 11, 12, 20, 29, 37, 41, 42, 43, 56] rfl rfl ?_
    repeat (first | refine Run.seq ?_ | refine Run.skip ?_)
    first | refine Run.condT rfl rfl ?_ | refine Run.condF rfl rfl ?_ | refine Run.condT rfl (by assumption) ?_ | refine Run.condF rfl (by assumption) ?_
    repeat (first | refine Run.seq ?_ | refine Run.skip ?_ | refine Run.block ?_)
    refine Run.region ?_
    first | refine O.cmp rfl rfl rfl (by first | exact decide_eq_true (by omega) | exact decide_eq_false (by omega)) rfl ?_ | refine O.cmp rfl rfl rfl rfl rfl ?_
    refine O.assign rfl rfl ?_
    refine O.nil ?_
    try refine Run.keep [0, 1, 2, 3, 4, 11, 12, 20, 29, 37, 41, 42, 43, 56] rfl rfl ?_
    repeat (first | refine Run.seq ?_ | refine Run.skip ?_)
    first | refine Run.condT rfl rfl ?_ | refine Run.condF rfl rfl ?_ | refine Run.condT rfl (by assumption) ?_ | refine Run.condF rfl (by assumption) ?_
    repeat (first | refine Run.seq ?_ | refine Run.skip ?_ | refine Run.block ?_)
    refine Run.region ?_
    refine O.field hE L60 rfl rfl rfl rfl ?_
    first | refine O.loadS hE T9 rfl rfl rfl (by rfl) rfl ?_ | refine O.loadE hE T9 rfl rfl (by rfl) rfl ?_ | refine O.load hE T9 rfl rfl rfl rfl ?_
    refine O.lenStr hE T9 rfl rfl rfl ?_
    refine O.move rfl rfl ?_
    refine O.nil ?_
    try refine Run.keep [0, 1, 2, 3, 4, 11, 12, 20, 29, 37, 41, 42, 43, 56] rfl rfl ?_
    repeat (first | refine Run.seq ?_ | refine Run.skip ?_)
    refine Run.block ?_
    refine Run.loopInv (ι := Nat) (fun j => j ≤ s.size) (fun j => ⟨65, [(1, .ptr 1 0), (3, .gl 9 (5 :: esc ((txB s).take j)).length), (41, .pv (.int .i64 s.size)), (42, .pv (.int .i64 j))], [(1, .var [.pv (.int .i64 4), .pv (.int .i64 0), .pv (.int .u64 0), .pv (.str s)]), (9, .lst 5 1 ((5 :: esc ((txB s).take j)).map (PV.int .u8)))]⟩) (fun j => s.size - j) 0 (by omega) ?_ ?_
    ·
      rw [List.take_zero, show esc [] = [] by unfold esc; rfl]
      refine SLe.eqv (by repeat (first | exact TmIn.nil | refine TmIn.cons rfl ?_)) (by repeat (first | exact BxIn.nil | refine BxIn.cons rfl ?_)) rfl
    rintro j hj ih
    by_cases hlt : j < s.size
    ·
      obtain ⟨c, hc⟩ : ∃ c, s[j]? = some c := ⟨s[j], getElem?_pos s j hlt⟩
      have hcL : (txB s)[j]? = some ((c.toNat : Nat) : Int) := by
        have h1 : s.data.toList[j]? = some c := by
          rw [Array.getElem?_toList]
          rw [getElem?_pos s j hlt] at hc
          rw [getElem?_pos s.data j hlt]
          exact hc
        unfold txB
        rw [List.getElem?_map, h1]; rfl
      have htk : (txB s).take (j + 1) = (txB s).take j ++ [((c.toNat : Nat) : Int)] := by rw [List.take_add_one, hcL]; rfl
      have hes := esc_snoc ((txB s).take j) ((c.toNat : Nat) : Int)
      rw [← htk] at hes
      have hel := esc_len ((txB s).take j)
      have hel2 : ((txB s).take j).length = j := by rw [List.length_take]; omega
      have hc2 : s[(j : Int).toNat]? = some c := by rw [Int.toNat_natCast]; exact hc
      have hb256 : c.toNat < 256 := c.toNat_lt
      generalize esc ((txB s).take j) = A1 at *
      by_cases h0 : c.toNat = 0
      ·
        have hes2 : 5 :: esc ((txB s).take (j + 1)) = (5 :: A1 ++ [((c.toNat : Nat) : Int)]) ++ [255] := by rw [hes, if_pos (by omega), h0]; simp
        repeat (first | refine Run.seq ?_ | refine Run.skip ?_ | refine Run.block ?_)
        refine Run.region ?_
        first | refine O.cmp rfl rfl rfl (by first | exact decide_eq_true (by omega) | exact decide_eq_false (by omega)) rfl ?_ | refine O.cmp rfl rfl rfl rfl rfl ?_
        refine O.nil ?_
        try refine Run.keep [0, 1, 2, 3, 4, 11, 12, 20, 29, 37, 41, 42, 43, 56] rfl rfl ?_
        repeat (first | refine Run.seq ?_ | refine Run.skip ?_)
        first | refine Run.condT rfl rfl ?_ | refine Run.condF rfl rfl ?_ | refine Run.condT rfl (by assumption) ?_ | refine Run.condF rfl (by assumption) ?_
        repeat (first | refine Run.seq ?_ | refine Run.skip ?_ | refine Run.block ?_)
        refine Run.region ?_
        refine O.move rfl rfl ?_
        refine O.assign rfl rfl ?_
        refine O.nil ?_
        try refine Run.keep [0, 1, 2, 3, 4, 11, 12, 20, 29, 37, 41, 42, 43, 56] rfl rfl ?_
        repeat (first | refine Run.seq ?_ | refine Run.skip ?_ | refine Run.block ?_)
        refine Run.region ?_
        refine O.move rfl rfl ?_
        refine O.field hE L60 rfl rfl rfl rfl ?_
        first | refine O.loadS hE T9 rfl rfl rfl (by rfl) rfl ?_ | refine O.loadE hE T9 rfl rfl (by rfl) rfl ?_ | refine O.load hE T9 rfl rfl rfl rfl ?_
        refine O.move rfl rfl ?_
        refine O.indexS hE T9 rfl rfl rfl (by omega) hc2 rfl ?_
        refine O.litV hE T27 rfl T5 rfl rfl rfl rfl rfl rfl rfl ?_
        refine O.appV (PV.int .u8) (q := 5 :: A1) (r := [((c.toNat : Nat) : Int)]) hE T27 rfl T5 rfl rfl rfl rfl rfl newest_pv rfl rfl rfl rfl (by simp; omega) (by simp [maxLen]; omega) rfl ?_
        refine O.assign rfl rfl ?_
        refine O.nil ?_
        try refine Run.keep [0, 1, 2, 3, 4, 11, 12, 20, 29, 37, 41, 42, 43, 56] rfl rfl ?_
        repeat (first | refine Run.seq ?_ | refine Run.skip ?_ | refine Run.block ?_)
        refine Run.region ?_
        refine O.field hE L60 rfl rfl rfl rfl ?_
        first | refine O.loadS hE T9 rfl rfl rfl (by rfl) rfl ?_ | refine O.loadE hE T9 rfl rfl (by rfl) rfl ?_ | refine O.load hE T9 rfl rfl rfl rfl ?_
        refine O.move rfl rfl ?_
        refine O.indexS hE T9 rfl rfl rfl (by omega) hc2 rfl ?_
        first | refine O.cmp rfl rfl rfl (by first | exact decide_eq_true (by omega) | exact decide_eq_false (by omega)) rfl ?_ | refine O.cmp rfl rfl rfl rfl rfl ?_
        refine O.nil ?_
        try refine Run.keep [0, 1, 2, 3, 4, 11, 12, 20, 29, 37, 41, 42, 43, 56] rfl rfl ?_
        repeat (first | refine Run.seq ?_ | refine Run.skip ?_)
        first | refine Run.condT rfl rfl ?_ | refine Run.condF rfl rfl ?_ | refine Run.condT rfl (by assumption) ?_ | refine Run.condF rfl (by assumption) ?_
        repeat (first | refine Run.seq ?_ | refine Run.skip ?_ | refine Run.block ?_)
        refine Run.region ?_
        refine O.move rfl rfl ?_
        refine O.litV hE T27 rfl T5 rfl rfl rfl rfl rfl rfl rfl ?_
        refine O.appV (PV.int .u8) (q := 5 :: A1 ++ [((c.toNat : Nat) : Int)]) (r := [255]) hE T27 rfl T5 rfl rfl rfl rfl rfl newest_pv rfl rfl rfl rfl (by simp; omega) (by simp [maxLen]; omega) rfl ?_
        refine O.assign rfl rfl ?_
        refine O.nil ?_
        try refine Run.keep [0, 1, 2, 3, 4, 11, 12, 20, 29, 37, 41, 42, 43, 56] rfl rfl ?_
        repeat (first | refine Run.seq ?_ | refine Run.skip ?_ | refine Run.block ?_)
        refine Run.region ?_
        first | refine O.ar rfl rfl rfl (by exact wrap_i64 (by omega) (by omega)) rfl ?_ | refine O.ar rfl rfl rfl rfl rfl ?_
        refine O.move rfl rfl ?_
        refine O.nil ?_
        try refine Run.keep [0, 1, 2, 3, 4, 11, 12, 20, 29, 37, 41, 42, 43, 56] rfl rfl ?_
        refine ih (j + 1) _ ?_ (by omega) (by omega)
        rw [hes2]
        exact SLe.drop (by repeat (first | exact TmIn.nil | refine TmIn.cons rfl ?_)) (by repeat (first | exact BxIn.nil | refine BxIn.cons rfl ?_)) rfl rfl
      ·
        have hes2 : 5 :: esc ((txB s).take (j + 1)) = 5 :: A1 ++ [((c.toNat : Nat) : Int)] := by rw [hes, if_neg (by omega)]; simp
        repeat (first | refine Run.seq ?_ | refine Run.skip ?_ | refine Run.block ?_)
        refine Run.region ?_
        first | refine O.cmp rfl rfl rfl (by first | exact decide_eq_true (by omega) | exact decide_eq_false (by omega)) rfl ?_ | refine O.cmp rfl rfl rfl rfl rfl ?_
        refine O.nil ?_
        try refine Run.keep [0, 1, 2, 3, 4, 11, 12, 20, 29, 37, 41, 42, 43, 56] rfl rfl ?_
        repeat (first | refine Run.seq ?_ | refine Run.skip ?_)
        first | refine Run.condT rfl rfl ?_ | refine Run.condF rfl rfl ?_ | refine Run.condT rfl (by assumption) ?_ | refine Run.condF rfl (by assumption) ?_
        repeat (first | refine Run.seq ?_ | refine Run.skip ?_ | refine Run.block ?_)
        refine Run.region ?_
        refine O.move rfl rfl ?_
        refine O.assign rfl rfl ?_
        refine O.nil ?_
        try refine Run.keep [0, 1, 2, 3, 4, 11, 12, 20, 29, 37, 41, 42, 43, 56] rfl rfl ?_
        repeat (first | refine Run.seq ?_ | refine Run.skip ?_ | refine Run.block ?_)
        refine Run.region ?_
        refine O.move rfl rfl ?_
        refine O.field hE L60 rfl rfl rfl rfl ?_
        first | refine O.loadS hE T9 rfl rfl rfl (by rfl) rfl ?_ | refine O.loadE hE T9 rfl rfl (by rfl) rfl ?_ | refine O.load hE T9 rfl rfl rfl rfl ?_
        refine O.move rfl rfl ?_
        refine O.indexS hE T9 rfl rfl rfl (by omega) hc2 rfl ?_
        refine O.litV hE T27 rfl T5 rfl rfl rfl rfl rfl rfl rfl ?_
        refine O.appV (PV.int .u8) (q := 5 :: A1) (r := [((c.toNat : Nat) : Int)]) hE T27 rfl T5 rfl rfl rfl rfl rfl newest_pv rfl rfl rfl rfl (by simp; omega) (by simp [maxLen]; omega) rfl ?_
        refine O.assign rfl rfl ?_
        refine O.nil ?_
        try refine Run.keep [0, 1, 2, 3, 4, 11, 12, 20, 29, 37, 41, 42, 43, 56] rfl rfl ?_
        repeat (first | refine Run.seq ?_ | refine Run.skip ?_ | refine Run.block ?_)
        refine Run.region ?_
        refine O.field hE L60 rfl rfl rfl rfl ?_
        first | refine O.loadS hE T9 rfl rfl rfl (by rfl) rfl ?_ | refine O.loadE hE T9 rfl rfl (by rfl) rfl ?_ | refine O.load hE T9 rfl rfl rfl rfl ?_
        refine O.move rfl rfl ?_
        refine O.indexS hE T9 rfl rfl rfl (by omega) hc2 rfl ?_
        first | refine O.cmp rfl rfl rfl (by first | exact decide_eq_true (by omega) | exact decide_eq_false (by omega)) rfl ?_ | refine O.cmp rfl rfl rfl rfl rfl ?_
        refine O.nil ?_
        try refine Run.keep [0, 1, 2, 3, 4, 11, 12, 20, 29, 37, 41, 42, 43, 56] rfl rfl ?_
        repeat (first | refine Run.seq ?_ | refine Run.skip ?_)
        first | refine Run.condT rfl rfl ?_ | refine Run.condF rfl rfl ?_ | refine Run.condT rfl (by assumption) ?_ | refine Run.condF rfl (by assumption) ?_
        repeat (first | refine Run.seq ?_ | refine Run.skip ?_ | refine Run.block ?_)
        refine Run.region ?_
        first | refine O.ar rfl rfl rfl (by exact wrap_i64 (by omega) (by omega)) rfl ?_ | refine O.ar rfl rfl rfl rfl rfl ?_
        refine O.move rfl rfl ?_
        refine O.nil ?_
        try refine Run.keep [0, 1, 2, 3, 4, 11, 12, 20, 29, 37, 41, 42, 43, 56] rfl rfl ?_
        refine ih (j + 1) _ ?_ (by omega) (by omega)
        rw [hes2]
        exact SLe.drop (by repeat (first | exact TmIn.nil | refine TmIn.cons rfl ?_)) (by repeat (first | exact BxIn.nil | refine BxIn.cons rfl ?_)) rfl rfl
    have hj' : j = (txB s).length := by omega
    have hel := esc_len (txB s)
    rw [hj', List.take_length]
    generalize esc (txB s) = A at *
    repeat (first | refine Run.seq ?_ | refine Run.skip ?_ | refine Run.block ?_)
    refine Run.region ?_
    first | refine O.cmp rfl rfl rfl (by first | exact decide_eq_true (by omega) | exact decide_eq_false (by omega)) rfl ?_ | refine O.cmp rfl rfl rfl rfl rfl ?_
    refine O.nil ?_
    try refine Run.keep [0, 1, 2, 3, 4, 11, 12, 20, 29, 37, 41, 42, 43, 56] rfl rfl ?_
    repeat (first | refine Run.seq ?_ | refine Run.skip ?_)
    first | refine Run.condT rfl rfl ?_ | refine Run.condF rfl rfl ?_ | refine Run.condT rfl (by assumption) ?_ | refine Run.condF rfl (by assumption) ?_
    refine Run.exit ?_
    repeat (first | refine thenR_exit ?_ | refine roundR_exit ?_ | refine blockR_exit ?_ | refine blockR_pass rfl ?_)
    repeat (first | refine Run.seq ?_ | refine Run.skip ?_ | refine Run.block ?_)
    refine Run.region ?_
    refine O.move rfl rfl ?_
    refine O.litV hE T27 rfl T5 rfl rfl rfl rfl rfl rfl rfl ?_
    refine O.appV (PV.int .u8) (q := 5 :: A) (r := [0, 1]) hE T27 rfl T5 rfl rfl rfl rfl rfl newest_pv rfl rfl rfl rfl (by simp; omega) (by simp [maxLen]; omega) rfl ?_
    refine O.assign rfl rfl ?_
    refine O.nil ?_
    try refine Run.keep [0, 1, 2, 3, 4, 11, 12, 20, 29, 37, 41, 42, 43, 56] rfl rfl ?_
    refine Run.ret ?_
    exact Ends.of hE (.inr rfl) rfl rfl (SLe.res0 (AVle.lst _ _ _ (lstOf_glV rfl (by simp))) rfl)
/-- Does a column go down? -/
def dnB (down : Int) (j : Nat) : Bool := decide (IntKind.i64.wrap (BitVec.ofInt IntKind.i64.bits (down.fdiv (2 ^ (min (j : Int).toNat IntKind.i64.bits))) &&& BitVec.ofInt IntKind.i64.bits 1).toNat = 1)
def flipB (b : Bool) (c : Int) : Int := if b then notI .u8 c else c
/-- The bytes of a row. -/
def encP (down : Int) : Nat → List Vl → List Int
  | _, [] => []
  | i, v :: vs => (oneP v).map (flipB (dnB down i)) ++ encP down (i + 1) vs
theorem encP_append (down : Int) : ∀ (i : Nat) (a b : List Vl), encP down i (a ++ b) = encP down i a ++ encP down (i + a.length) b
  | i, [], b => by simp [encP]
  | i, v :: a, b => by
    simp only [List.cons_append, encP, List.length_cons]
    rw [encP_append down (i + 1) a b, List.append_assoc, show i + 1 + a.length = i + (a.length + 1) by omega]
theorem encP_len {down : Int} : ∀ (i : Nat) (vs : List Vl), (∀ v ∈ vs, Good v) → (encP down i vs).length ≤ 83 * vs.length
  | i, [], _ => by simp [encP]
  | i, v :: vs, h => by
    have h1 := one_len (h v (by simp))
    have h2 := encP_len (down := down) (i + 1) vs (fun w hw => h w (by simp [hw]))
    simp only [encP, List.length_append, List.length_map, List.length_cons]
    omega
theorem fnEncode (hV : VStr g) {vs : List Vl} (hl : vs.length ≤ 5) (hg : ∀ v ∈ vs, Good v) (down : Int) : FnC (En Tryd.prog g) 20 [.pv (.lst 4 (vs.map vlE)), .pv (.int .i64 down)] (.tup [.pv (byv (encP down 0 vs)), .pv (.int .i64 0)]) [] := by
  have hE := EnOk g
  have hlen : (vs.map vlE).length = vs.length := by simp
  refine FnC.of Tryd.func20 rfl rfl rfl rfl ?_
  repeat (first | refine Run.seq ?_ | refine Run.skip ?_ | refine Run.block ?_)
  refine Run.region ?_
  refine O.assign rfl rfl ?_
  refine O.assign rfl rfl ?_
  refine O.nil ?_
  try refine Run.keep [0, 1, 4, 5, 6, 7, 8, 9, 11, 14, 15, 16, 17, 18, 25, 28, 29, 30, 31, 38] rfl rfl ?_
  repeat (first | refine Run.seq ?_ | refine Run.skip ?_ | refine Run.block ?_)
  refine Run.region ?_
  refine O.move rfl rfl ?_
  first | refine O.lenN hE T37 rfl rfl rfl (by first | exact newest_pv | exact newest_gl rfl rfl | trivial) lenC rfl ?_ | refine O.lenLst hE T37 rfl rfl rfl (by first | exact newest_pv | exact newest_gl rfl rfl | trivial) rfl ?_
  first | refine O.cmp rfl rfl rfl (by first | exact decide_eq_true (by omega) | exact decide_eq_false (by omega)) rfl ?_ | refine O.cmp rfl rfl rfl rfl rfl ?_
  refine O.nil ?_
  try refine Run.keep [0, 1, 4, 5, 6, 7, 8, 9, 11, 14, 15, 16, 17, 18, 25, 28, 29, 30, 31, 38] rfl rfl ?_
  repeat (first | refine Run.seq ?_ | refine Run.skip ?_)
  first | refine Run.condT rfl rfl ?_ | refine Run.condF rfl rfl ?_ | refine Run.condT rfl (by assumption) ?_ | refine Run.condF rfl (by assumption) ?_
  repeat (first | refine Run.seq ?_ | refine Run.skip ?_ | refine Run.block ?_)
  refine Run.region ?_
  refine O.assign rfl rfl ?_
  refine O.nil ?_
  try refine Run.keep [0, 1, 4, 5, 6, 7, 8, 9, 11, 14, 15, 16, 17, 18, 25, 28, 29, 30, 31, 38] rfl rfl ?_
  refine Run.pre (SLe.nilBox (t := 6) (b := 106) (e := 5) (sz := 1) rfl rfl rfl rfl) ?_
  repeat (first | refine Run.seq ?_ | refine Run.skip ?_ | refine Run.block ?_)
  refine Run.region ?_
  refine O.move rfl rfl ?_
  first | refine O.lenN hE T37 rfl rfl rfl (by first | exact newest_pv | exact newest_gl rfl rfl | trivial) lenC rfl ?_ | refine O.lenLst hE T37 rfl rfl rfl (by first | exact newest_pv | exact newest_gl rfl rfl | trivial) rfl ?_
  refine O.move rfl rfl ?_
  refine O.nil ?_
  try refine Run.keep [0, 1, 4, 5, 6, 7, 8, 9, 11, 14, 15, 16, 17, 18, 25, 28, 29, 30, 31, 38] rfl rfl ?_
  repeat (first | refine Run.seq ?_ | refine Run.skip ?_)
  refine Run.block ?_
  refine Run.loopInv (ι := Nat) (fun j => j ≤ vs.length) (fun j => ⟨48, [(1, .pv (.int .i64 down)), (6, .gl 106 (encP down 0 (vs.take j)).length), (15, .pv (.lst 4 (vs.map vlE))), (16, .pv (.int .i64 vs.length)), (17, .pv (.int .i64 j))], [(106, .lst 5 1 ((encP down 0 (vs.take j)).map (PV.int .u8)))]⟩) (fun j => vs.length - j) 0 (by omega) ?_ ?_
  ·
    refine SLe.eqv (by repeat (first | exact TmIn.nil | refine TmIn.cons rfl ?_)) (by repeat (first | exact BxIn.nil | refine BxIn.cons rfl ?_)) rfl
  rintro j hj ih
  by_cases hlt : j < vs.length
  ·
    obtain ⟨v, hv⟩ : ∃ v, vs[j]? = some v := ⟨_, List.getElem?_eq_getElem hlt⟩
    have hat : (vs.map vlE)[(j : Int).toNat]? = some (vlE v) := by rw [Int.toNat_natCast, List.getElem?_map, hv]; rfl
    have hgv := hg v (List.mem_of_getElem? hv)
    have c1 := fnCheck hV hgv
    have c2 := fnOne (g := g) hgv
    have htk : encP down 0 (vs.take (j + 1)) = encP down 0 (vs.take j) ++ (oneP v).map (flipB (dnB down j)) := by
      rw [List.take_add_one, hv, encP_append, Nat.zero_add, List.length_take, Nat.min_eq_left hj]
      simp [encP]
    have hA := encP_len (down := down) 0 (vs.take j) (fun w hw => hg w (List.mem_of_mem_take hw))
    have hA2 : (vs.take j).length ≤ 5 := by rw [List.length_take]; omega
    have hO := one_len hgv
    have hOB : ∀ (i : Nat) (c : Int), (oneP v)[i]? = some c → notI .u8 c = flipB true c ∧ c = flipB false c := fun i c _ => ⟨rfl, rfl⟩
    clear hgv
    obtain ⟨k, n, bt, t⟩ := v
    dsimp only [vlA, vlE] at c1 c2 hat
    obtain ⟨Ob, hO2⟩ : ∃ Ob, oneP ⟨k, n, bt, t⟩ = Ob := ⟨_, rfl⟩
    rw [hO2] at c2 htk hO
    clear hOB hO2 hv
    have hOm : (Ob.map (PV.int .u8)).length = Ob.length := by simp
    obtain ⟨B, hB⟩ : ∃ B, dnB down j = B := ⟨_, rfl⟩
    rw [hB] at htk
    generalize encP down 0 (vs.take j) = A at *
    repeat (first | refine Run.seq ?_ | refine Run.skip ?_ | refine Run.block ?_)
    refine Run.region ?_
    first | refine O.cmp rfl rfl rfl (by first | exact decide_eq_true (by omega) | exact decide_eq_false (by omega)) rfl ?_ | refine O.cmp rfl rfl rfl rfl rfl ?_
    refine O.nil ?_
    try refine Run.keep [0, 1, 4, 5, 6, 7, 8, 9, 11, 14, 15, 16, 17, 18, 25, 28, 29, 30, 31, 38] rfl rfl ?_
    repeat (first | refine Run.seq ?_ | refine Run.skip ?_)
    first | refine Run.condT rfl rfl ?_ | refine Run.condF rfl rfl ?_ | refine Run.condT rfl (by assumption) ?_ | refine Run.condF rfl (by assumption) ?_
    repeat (first | refine Run.seq ?_ | refine Run.skip ?_ | refine Run.block ?_)
    refine Run.region ?_
    refine O.move rfl rfl ?_
    refine O.index hE T37 rfl T60 rfl rfl newest_pv rfl (by omega) hat rfl rfl rfl ?_
    refine O.load hE T60 rfl rfl rfl rfl ?_
    refine O.alloc hE 8 T60 rfl rfl rfl ?_
    refine O.assign rfl rfl ?_
    refine O.store hE T60 rfl rfl rfl rfl rfl rfl ?_
    refine O.nil ?_
    try refine Run.keep [0, 1, 4, 5, 6, 7, 8, 9, 11, 14, 15, 16, 17, 18, 25, 28, 29, 30, 31, 38] rfl rfl ?_
    repeat (first | refine Run.seq ?_ | refine Run.skip ?_ | refine Run.block ?_)
    refine Run.region ?_
    refine O.load hE T60 rfl rfl rfl rfl ?_
    refine O.callE c1 rfl (by first | rfl | simp [closed, men3, mens2_app, mens2_ints, mens2, men2, men1, mens1_app, mens1_ints, mens1]) (by first | rfl | simp [d2, ds1_ints, ds1_app, ds1, d1, ds0_app, ds0_ints, ds0, d0]) rfl ?_
    refine O.assign rfl rfl ?_
    refine O.nil ?_
    try refine Run.keep [0, 1, 4, 5, 6, 7, 8, 9, 11, 14, 15, 16, 17, 18, 25, 28, 29, 30, 31, 38] rfl rfl ?_
    repeat (first | refine Run.seq ?_ | refine Run.skip ?_ | refine Run.block ?_)
    refine Run.region ?_
    refine O.move rfl rfl ?_
    first | refine O.cmp rfl rfl rfl (by first | exact decide_eq_true (by omega) | exact decide_eq_false (by omega)) rfl ?_ | refine O.cmp rfl rfl rfl rfl rfl ?_
    refine O.nil ?_
    try refine Run.keep [0, 1, 4, 5, 6, 7, 8, 9, 11, 14, 15, 16, 17, 18, 25, 28, 29, 30, 31, 38] rfl rfl ?_
    repeat (first | refine Run.seq ?_ | refine Run.skip ?_)
    first | refine Run.condT rfl rfl ?_ | refine Run.condF rfl rfl ?_ | refine Run.condT rfl (by assumption) ?_ | refine Run.condF rfl (by assumption) ?_
    repeat (first | refine Run.seq ?_ | refine Run.skip ?_ | refine Run.block ?_)
    refine Run.region ?_
    refine O.load hE T60 rfl rfl rfl rfl ?_
    refine O.callE c2 rfl (by first | rfl | simp [closed, men3, mens2_app, mens2_ints, mens2, men2, men1, mens1_app, mens1_ints, mens1]) (by first | rfl | simp [d2, ds1_ints, ds1_app, ds1, d1, ds0_app, ds0_ints, ds0, d0]) rfl ?_
    first | refine O.lenN hE T27 rfl rfl rfl (by first | exact newest_pv | exact newest_gl rfl rfl | trivial) lenC rfl ?_ | refine O.lenLst hE T27 rfl rfl rfl (by first | exact newest_pv | exact newest_gl rfl rfl | trivial) rfl ?_
    refine O.move rfl rfl ?_
    refine O.nil ?_
    try refine Run.keep [0, 1, 4, 5, 6, 7, 8, 9, 11, 14, 15, 16, 17, 18, 25, 28, 29, 30, 31, 38] rfl rfl ?_
    repeat (first | refine Run.seq ?_ | refine Run.skip ?_)
    refine Run.block ?_
    refine Run.loopInv (ι := Nat) (fun i => i ≤ Ob.length) (fun i => ⟨48, [(1, .pv (.int .i64 down)), (6, .gl 106 (A ++ (Ob.take i).map (flipB B)).length), (7, .pv (.int .i64 j)), (15, .pv (.lst 4 (vs.map vlE))), (16, .pv (.int .i64 vs.length)), (17, .pv (.int .i64 j)), (28, .pv (byv Ob)), (29, .pv (.int .i64 Ob.length)), (30, .pv (.int .i64 i))], [(106, .lst 5 1 ((A ++ (Ob.take i).map (flipB B)).map (PV.int .u8)))]⟩) (fun i => Ob.length - i) 0 (by omega) ?_ ?_
    ·
      rw [List.take_zero, List.map_nil, List.append_nil]
      exact SLe.drop (by repeat (first | exact TmIn.nil | refine TmIn.cons rfl ?_)) (by repeat (first | exact BxIn.nil | refine BxIn.cons rfl ?_)) rfl rfl
    rintro i hi ih2
    by_cases hil : i < Ob.length
    ·
      obtain ⟨c, hc⟩ : ∃ c, Ob[i]? = some c := ⟨_, List.getElem?_eq_getElem hil⟩
      have hat2 : (Ob.map (PV.int .u8))[(i : Int).toNat]? = some (.int .u8 c) := by rw [Int.toNat_natCast, List.getElem?_map, hc]; rfl
      have hti : A ++ (Ob.take (i + 1)).map (flipB B) = A ++ (Ob.take i).map (flipB B) ++ [flipB B c] := by
        rw [List.take_add_one, hc]; simp
      have hil2 : (A ++ (Ob.take i).map (flipB B)).length ≤ 600 := by rw [List.length_append, List.length_map, List.length_take]; omega
      generalize A ++ (Ob.take i).map (flipB B) = Q at *
      cases B with
      | true =>
        repeat (first | refine Run.seq ?_ | refine Run.skip ?_ | refine Run.block ?_)
        refine Run.region ?_
        first | refine O.cmp rfl rfl rfl (by first | exact decide_eq_true (by omega) | exact decide_eq_false (by omega)) rfl ?_ | refine O.cmp rfl rfl rfl rfl rfl ?_
        refine O.nil ?_
        try refine Run.keep [0, 1, 4, 5, 6, 7, 8, 9, 11, 14, 15, 16, 17, 18, 25, 28, 29, 30, 31, 38] rfl rfl ?_
        repeat (first | refine Run.seq ?_ | refine Run.skip ?_)
        first | refine Run.condT rfl rfl ?_ | refine Run.condF rfl rfl ?_ | refine Run.condT rfl (by assumption) ?_ | refine Run.condF rfl (by assumption) ?_
        repeat (first | refine Run.seq ?_ | refine Run.skip ?_ | refine Run.block ?_)
        refine Run.region ?_
        refine O.index hE T27 rfl T5 rfl rfl newest_pv rfl (by omega) hat2 rfl rfl rfl ?_
        first | refine O.loadS hE T5 rfl rfl rfl (by rfl) rfl ?_ | refine O.loadE hE T5 rfl rfl (by rfl) rfl ?_ | refine O.load hE T5 rfl rfl rfl rfl ?_
        refine O.assign rfl rfl ?_
        refine O.nil ?_
        try refine Run.keep [0, 1, 4, 5, 6, 7, 8, 9, 11, 14, 15, 16, 17, 18, 25, 28, 29, 30, 31, 38] rfl rfl ?_
        repeat (first | refine Run.seq ?_ | refine Run.skip ?_ | refine Run.block ?_)
        refine Run.region ?_
        refine O.move rfl rfl ?_
        refine O.move rfl rfl ?_
        refine O.shr rfl rfl (by first | omega | (exact wrap_nn rfl _)) rfl ?_
        refine O.bit rfl rfl rfl rfl ?_
        refine O.cmp (c' := dnB down j) rfl rfl rfl rfl rfl ?_
        refine O.nil ?_
        try refine Run.keep [0, 1, 4, 5, 6, 7, 8, 9, 11, 14, 15, 16, 17, 18, 25, 28, 29, 30, 31, 38] rfl rfl ?_
        repeat (first | refine Run.seq ?_ | refine Run.skip ?_)
        first | refine Run.condT rfl rfl ?_ | refine Run.condF rfl rfl ?_ | refine Run.condT rfl (by assumption) ?_ | refine Run.condF rfl (by assumption) ?_
        repeat (first | refine Run.seq ?_ | refine Run.skip ?_ | refine Run.block ?_)
        refine Run.region ?_
        refine O.move rfl rfl ?_
        refine O.notB rfl rfl ?_
        refine O.assign rfl rfl ?_
        refine O.nil ?_
        try refine Run.keep [0, 1, 4, 5, 6, 7, 8, 9, 11, 14, 15, 16, 17, 18, 25, 28, 29, 30, 31, 38] rfl rfl ?_
        repeat (first | refine Run.seq ?_ | refine Run.skip ?_ | refine Run.block ?_)
        refine Run.region ?_
        refine O.move rfl rfl ?_
        refine O.move rfl rfl ?_
        refine O.litV hE T27 rfl T5 rfl rfl rfl rfl rfl rfl rfl ?_
        refine O.appV (PV.int .u8) (q := Q) (r := [notI .u8 c]) hE T27 rfl T5 rfl rfl rfl rfl rfl newest_pv rfl rfl rfl rfl (by simp; omega) (by simp [maxLen]; omega) rfl ?_
        refine O.assign rfl rfl ?_
        refine O.nil ?_
        try refine Run.keep [0, 1, 4, 5, 6, 7, 8, 9, 11, 14, 15, 16, 17, 18, 25, 28, 29, 30, 31, 38] rfl rfl ?_
        repeat (first | refine Run.seq ?_ | refine Run.skip ?_ | refine Run.block ?_)
        refine Run.region ?_
        first | refine O.ar rfl rfl rfl (by exact wrap_i64 (by omega) (by omega)) rfl ?_ | refine O.ar rfl rfl rfl rfl rfl ?_
        refine O.move rfl rfl ?_
        refine O.nil ?_
        try refine Run.keep [0, 1, 4, 5, 6, 7, 8, 9, 11, 14, 15, 16, 17, 18, 25, 28, 29, 30, 31, 38] rfl rfl ?_
        refine ih2 (i + 1) _ ?_ (by omega) (by omega)
        rw [hti]
        exact SLe.drop (by repeat (first | exact TmIn.nil | refine TmIn.cons rfl ?_)) (by repeat (first | exact BxIn.nil | refine BxIn.cons rfl ?_)) rfl rfl
      | false =>
        repeat (first | refine Run.seq ?_ | refine Run.skip ?_ | refine Run.block ?_)
        refine Run.region ?_
        first | refine O.cmp rfl rfl rfl (by first | exact decide_eq_true (by omega) | exact decide_eq_false (by omega)) rfl ?_ | refine O.cmp rfl rfl rfl rfl rfl ?_
        refine O.nil ?_
        try refine Run.keep [0, 1, 4, 5, 6, 7, 8, 9, 11, 14, 15, 16, 17, 18, 25, 28, 29, 30, 31, 38] rfl rfl ?_
        repeat (first | refine Run.seq ?_ | refine Run.skip ?_)
        first | refine Run.condT rfl rfl ?_ | refine Run.condF rfl rfl ?_ | refine Run.condT rfl (by assumption) ?_ | refine Run.condF rfl (by assumption) ?_
        repeat (first | refine Run.seq ?_ | refine Run.skip ?_ | refine Run.block ?_)
        refine Run.region ?_
        refine O.index hE T27 rfl T5 rfl rfl newest_pv rfl (by omega) hat2 rfl rfl rfl ?_
        first | refine O.loadS hE T5 rfl rfl rfl (by rfl) rfl ?_ | refine O.loadE hE T5 rfl rfl (by rfl) rfl ?_ | refine O.load hE T5 rfl rfl rfl rfl ?_
        refine O.assign rfl rfl ?_
        refine O.nil ?_
        try refine Run.keep [0, 1, 4, 5, 6, 7, 8, 9, 11, 14, 15, 16, 17, 18, 25, 28, 29, 30, 31, 38] rfl rfl ?_
        repeat (first | refine Run.seq ?_ | refine Run.skip ?_ | refine Run.block ?_)
        refine Run.region ?_
        refine O.move rfl rfl ?_
        refine O.move rfl rfl ?_
        refine O.shr rfl rfl (by first | omega | (exact wrap_nn rfl _)) rfl ?_
        refine O.bit rfl rfl rfl rfl ?_
        refine O.cmp (c' := dnB down j) rfl rfl rfl rfl rfl ?_
        refine O.nil ?_
        try refine Run.keep [0, 1, 4, 5, 6, 7, 8, 9, 11, 14, 15, 16, 17, 18, 25, 28, 29, 30, 31, 38] rfl rfl ?_
        repeat (first | refine Run.seq ?_ | refine Run.skip ?_)
        first | refine Run.condT rfl rfl ?_ | refine Run.condF rfl rfl ?_ | refine Run.condT rfl (by assumption) ?_ | refine Run.condF rfl (by assumption) ?_
        repeat (first | refine Run.seq ?_ | refine Run.skip ?_ | refine Run.block ?_)
        refine Run.region ?_
        refine O.move rfl rfl ?_
        refine O.move rfl rfl ?_
        refine O.litV hE T27 rfl T5 rfl rfl rfl rfl rfl rfl rfl ?_
        refine O.appV (PV.int .u8) (q := Q) (r := [c]) hE T27 rfl T5 rfl rfl rfl rfl rfl newest_pv rfl rfl rfl rfl (by simp; omega) (by simp [maxLen]; omega) rfl ?_
        refine O.assign rfl rfl ?_
        refine O.nil ?_
        try refine Run.keep [0, 1, 4, 5, 6, 7, 8, 9, 11, 14, 15, 16, 17, 18, 25, 28, 29, 30, 31, 38] rfl rfl ?_
        repeat (first | refine Run.seq ?_ | refine Run.skip ?_ | refine Run.block ?_)
        refine Run.region ?_
        first | refine O.ar rfl rfl rfl (by exact wrap_i64 (by omega) (by omega)) rfl ?_ | refine O.ar rfl rfl rfl rfl rfl ?_
        refine O.move rfl rfl ?_
        refine O.nil ?_
        try refine Run.keep [0, 1, 4, 5, 6, 7, 8, 9, 11, 14, 15, 16, 17, 18, 25, 28, 29, 30, 31, 38] rfl rfl ?_
        refine ih2 (i + 1) _ ?_ (by omega) (by omega)
        rw [hti]
        exact SLe.drop (by repeat (first | exact TmIn.nil | refine TmIn.cons rfl ?_)) (by repeat (first | exact BxIn.nil | refine BxIn.cons rfl ?_)) rfl rfl
    have hi' : i = Ob.length := by omega
    rw [hi', List.take_length]
    repeat (first | refine Run.seq ?_ | refine Run.skip ?_ | refine Run.block ?_)
    refine Run.region ?_
    first | refine O.cmp rfl rfl rfl (by first | exact decide_eq_true (by omega) | exact decide_eq_false (by omega)) rfl ?_ | refine O.cmp rfl rfl rfl rfl rfl ?_
    refine O.nil ?_
    try refine Run.keep [0, 1, 4, 5, 6, 7, 8, 9, 11, 14, 15, 16, 17, 18, 25, 28, 29, 30, 31, 38] rfl rfl ?_
    repeat (first | refine Run.seq ?_ | refine Run.skip ?_)
    first | refine Run.condT rfl rfl ?_ | refine Run.condF rfl rfl ?_ | refine Run.condT rfl (by assumption) ?_ | refine Run.condF rfl (by assumption) ?_
    refine Run.exit ?_
    repeat (first | refine thenR_exit ?_ | refine roundR_exit ?_ | refine blockR_exit ?_ | refine blockR_pass rfl ?_)
    repeat (first | refine Run.seq ?_ | refine Run.skip ?_ | refine Run.block ?_)
    refine Run.region ?_
    first | refine O.ar rfl rfl rfl (by exact wrap_i64 (by omega) (by omega)) rfl ?_ | refine O.ar rfl rfl rfl rfl rfl ?_
    refine O.move rfl rfl ?_
    refine O.nil ?_
    try refine Run.keep [0, 1, 4, 5, 6, 7, 8, 9, 11, 14, 15, 16, 17, 18, 25, 28, 29, 30, 31, 38] rfl rfl ?_
    refine ih (j + 1) _ ?_ (by omega) (by omega)
    rw [htk]
    exact SLe.drop (by repeat (first | exact TmIn.nil | refine TmIn.cons rfl ?_)) (by repeat (first | exact BxIn.nil | refine BxIn.cons rfl ?_)) rfl rfl
  have hj' : j = vs.length := by omega
  rw [hj', List.take_length]
  repeat (first | refine Run.seq ?_ | refine Run.skip ?_ | refine Run.block ?_)
  refine Run.region ?_
  first | refine O.cmp rfl rfl rfl (by first | exact decide_eq_true (by omega) | exact decide_eq_false (by omega)) rfl ?_ | refine O.cmp rfl rfl rfl rfl rfl ?_
  refine O.nil ?_
  try refine Run.keep [0, 1, 4, 5, 6, 7, 8, 9, 11, 14, 15, 16, 17, 18, 25, 28, 29, 30, 31, 38] rfl rfl ?_
  repeat (first | refine Run.seq ?_ | refine Run.skip ?_)
  first | refine Run.condT rfl rfl ?_ | refine Run.condF rfl rfl ?_ | refine Run.condT rfl (by assumption) ?_ | refine Run.condF rfl (by assumption) ?_
  refine Run.exit ?_
  repeat (first | refine thenR_exit ?_ | refine roundR_exit ?_ | refine blockR_exit ?_ | refine blockR_pass rfl ?_)
  repeat (first | refine Run.seq ?_ | refine Run.skip ?_ | refine Run.block ?_)
  refine Run.region ?_
  refine O.move rfl rfl ?_
  refine O.assign rfl rfl ?_
  refine O.assign rfl rfl ?_
  refine O.nil ?_
  try refine Run.keep [0, 1, 4, 5, 6, 7, 8, 9, 11, 14, 15, 16, 17, 18, 25, 28, 29, 30, 31, 38] rfl rfl ?_
  refine Run.ret ?_
  exact Ends.of hE (.inr rfl) rfl rfl (SLe.res0 (AVle.tups (.cons (AVle.lst _ _ _ (lstOf_glV rfl (by simp))) (.cons (AVle.of_eq rfl) .nil))) rfl)
end Go.Proofs.YtalcpfpjkfpmbaaDoor.Vm
