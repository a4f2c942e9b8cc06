/- A value is read as it was written: whole numbers and reals. Conditions: what utf8.ValidString answers. -/
import Derived.Test.YtalcpfpjkfpmbaaDoorCodeH
namespace Go.Proofs.YtalcpfpjkfpmbaaDoor.Vm
open Go Go.RowKit Go.Lib
set_option linter.unusedVariables false
set_option linter.unusedSimpArgs false
attribute [local irreducible] Ops Dr Run eightU esc turnU backU
variable {g : Nat → Option (List PV)}
theorem wr64V {n : Nat} (h : n < 18446744073709551616) : IntKind.u64.wrap ((n : Nat) : Int) = ((n : Nat) : Int) := by
  rw [IntKind.wrap_u64]; omega
theorem div64 (N : Nat) (h : N < 18446744073709551616) : N / 2 ^ (64 - 8 * 0) = 0 := by
  have e : (2 : Nat) ^ (64 - 8 * 0) = 18446744073709551616 := by decide +kernel
  rw [e, Nat.div_eq_of_lt h]
theorem read_int (hV : VStr g) {n : Int} (hn : -9223372036854775808 ≤ n ∧ n ≤ 9223372036854775807) : ReadOk g ⟨2, n, 0, ⟨#[]⟩⟩ := by
  intro b p B rest hb h
  have ho : oneP ⟨2, n, 0, ⟨#[]⟩⟩ = 3 :: eightU (n + 9223372036854775808).toNat := by
    show 3 :: eightU (n + 9223372036854775808).toNat = _
    rfl
  have hNl : (n + 9223372036854775808).toNat < 18446744073709551616 := by omega
  have hx : bitI .xor .u64 (((n + 9223372036854775808).toNat : Nat) : Int) 9223372036854775808 = some ((if 9223372036854775808 ≤ (n + 9223372036854775808).toNat then (n + 9223372036854775808).toNat - 9223372036854775808 else (n + 9223372036854775808).toNat + 9223372036854775808 : Nat) : Int) := by
    have h1 := u64_xor_nat (n + 9223372036854775808).toNat 9223372036854775808 hNl (by decide)
    rw [top_xor (n + 9223372036854775808).toNat hNl] at h1
    exact congrArg some h1
  have hw : IntKind.i64.wrap (((if 9223372036854775808 ≤ (n + 9223372036854775808).toNat then (n + 9223372036854775808).toNat - 9223372036854775808 else (n + 9223372036854775808).toNat + 9223372036854775808 : Nat)) : Int) = n := by
    rw [IntKind.wrap_i64]
    split <;> omega
  rw [ho] at h ⊢
  have hE := EnLOk g lnD
  have c1 := next_fit (g := g) (i := 0) hb h rfl (by omega)
  have c3 := (fnCheck hV (Good.int n hn)).lent lnD
  dsimp only [vlA] at c3
  rw [Nat.add_zero] at c1
  have hlen : (3 :: eightU (n + 9223372036854775808).toNat).length = 9 := by rw [List.length_cons, eightU_len]
  rw [hlen]
  show FnL _ _ _ _ (.tup [.agg [.pv (.int .i64 2), .pv (.int .i64 n), .pv (.int .u64 0), .pv (.str ⟨#[]⟩)], .pv (.int .i64 0)]) (bD b (p + 9) (flB B))
  have c2 : ∀ j, j < 8 → FnL (EnL Tryd.prog g lnD) 29 [.ptr 8 0, .ptr 3 0, .ptr 9 0] (bD b (p + 1 + j) (flB B)) (.tup [.pv (.int .u8 (((n + 9223372036854775808).toNat / 2 ^ (56 - 8 * j) % 256 : Nat) : Int)), .pv (.bool true)]) (bD b (p + 1 + (j + 1)) (flB B)) := fun j hj => by
    have := next_fit (g := g) (i := j + 1) hb h (eightU_at (n + 9223372036854775808).toNat hj) (by omega)
    rwa [show p + (j + 1) = p + 1 + j by omega, show p + 1 + j + 1 = p + 1 + (j + 1) by omega] at this
  generalize hM : (if 9223372036854775808 ≤ (n + 9223372036854775808).toNat then (n + 9223372036854775808).toNat - 9223372036854775808 else (n + 9223372036854775808).toNat + 9223372036854775808 : Nat) = M at *
  generalize (n + 9223372036854775808).toNat = N at *
  generalize flB B = fl at *
  clear ho h hlen
  refine FnL.of Tryd.func30 rfl rfl rfl rfl ?_
  repeat (first | refine Run.seq ?_ | refine Run.skip ?_ | refine Run.block ?_)
  refine Run.region ?_
  refine O.alloc hE 2 T60 rfl rfl rfl ?_
  refine O.assign rfl rfl ?_
  refine O.nil ?_
  try refine Run.keep [0, 2, 3, 4, 5, 6, 7, 8, 9, 10, 11, 12, 13, 20, 27, 29, 32, 40, 45, 48, 49, 56, 66, 74, 82, 89] rfl rfl ?_
  repeat (first | refine Run.seq ?_ | refine Run.skip ?_ | refine Run.block ?_)
  refine Run.region ?_
  refine O.move rfl rfl ?_
  refine O.lend (ln := lnD) c1 rfl rfl rfl (.inl rfl) (by repeat (first | exact BxIn.nil | refine BxIn.cons rfl ?_)) rfl rfl rfl rfl rfl rfl rfl rfl rfl rfl ?_
  refine O.move rfl rfl ?_
  refine O.extract rfl rfl rfl ?_
  refine O.extract rfl rfl rfl ?_
  refine O.assign rfl rfl ?_
  refine O.assign rfl rfl ?_
  refine O.nil ?_
  try refine Run.keep [0, 2, 3, 4, 5, 6, 7, 8, 9, 10, 11, 12, 13, 20, 27, 29, 32, 40, 45, 48, 49, 56, 66, 74, 82, 89] rfl rfl ?_
  repeat (first | refine Run.seq ?_ | refine Run.skip ?_ | refine Run.block ?_)
  refine Run.region ?_
  refine O.move rfl rfl ?_
  refine O.un rfl rfl rfl rfl rfl ?_
  refine O.nil ?_
  try refine Run.keep [0, 2, 3, 4, 5, 6, 7, 8, 9, 10, 11, 12, 13, 20, 27, 29, 32, 40, 45, 48, 49, 56, 66, 74, 82, 89] rfl rfl ?_
  repeat (first | refine Run.seq ?_ | refine Run.skip ?_)
  first | refine Run.condT rfl rfl ?_ | refine Run.condF rfl rfl ?_ | refine Run.condT rfl (by assumption) ?_ | refine Run.condF rfl (by assumption) ?_
  repeat (first | refine Run.seq ?_ | refine Run.skip ?_ | refine Run.block ?_)
  refine Run.region ?_
  refine O.move rfl rfl ?_
  refine O.conv hE T5 T3 rfl rfl rfl ?_
  first | refine O.ar rfl rfl rfl (by exact wrap_i64 (by omega) (by omega)) rfl ?_ | refine O.ar rfl rfl rfl rfl rfl ?_
  refine O.build hE T60 L60 rfl rfl rfl ?_
  refine O.alloc hE 6 T60 rfl rfl rfl ?_
  refine O.store hE T60 rfl rfl rfl rfl rfl rfl ?_
  refine O.nil ?_
  try refine Run.keep [0, 2, 3, 4, 5, 6, 7, 8, 9, 10, 11, 12, 13, 20, 27, 29, 32, 40, 45, 48, 49, 56, 66, 74, 82, 89] rfl rfl ?_
  repeat (first | refine Run.seq ?_ | refine Run.skip ?_ | refine Run.block ?_)
  refine Run.region ?_
  refine O.field hE L60 rfl rfl rfl rfl ?_
  first | refine O.loadS hE T3 rfl rfl rfl (by rfl) rfl ?_ | refine O.loadE hE T3 rfl rfl (by rfl) rfl ?_ | refine O.load hE T3 rfl rfl rfl rfl ?_
  refine O.nil ?_
  try refine Run.keep [0, 2, 3, 4, 5, 6, 7, 8, 9, 10, 11, 12, 13, 20, 27, 29, 32, 40, 45, 48, 49, 56, 66, 74, 82, 89] rfl rfl ?_
  repeat (first | refine Run.seq ?_ | refine Run.skip ?_ | refine Run.block ?_)
  refine Run.region ?_
  first | refine O.cmp rfl rfl rfl (by first | exact decide_eq_true (by omega) | exact decide_eq_false (by omega)) rfl ?_ | refine O.cmp rfl rfl rfl rfl rfl ?_
  refine O.assign rfl rfl ?_
  refine O.nil ?_
  try refine Run.keep [0, 2, 3, 4, 5, 6, 7, 8, 9, 10, 11, 12, 13, 20, 27, 29, 32, 40, 45, 48, 49, 56, 66, 74, 82, 89] rfl rfl ?_
  repeat (first | refine Run.seq ?_ | refine Run.skip ?_)
  first | refine Run.condT rfl rfl ?_ | refine Run.condF rfl rfl ?_ | refine Run.condT rfl (by assumption) ?_ | refine Run.condF rfl (by assumption) ?_
  repeat (first | refine Run.seq ?_ | refine Run.skip ?_ | refine Run.block ?_)
  refine Run.region ?_
  first | refine O.cmp rfl rfl rfl (by first | exact decide_eq_true (by omega) | exact decide_eq_false (by omega)) rfl ?_ | refine O.cmp rfl rfl rfl rfl rfl ?_
  refine O.assign rfl rfl ?_
  refine O.nil ?_
  try refine Run.keep [0, 2, 3, 4, 5, 6, 7, 8, 9, 10, 11, 12, 13, 20, 27, 29, 32, 40, 45, 48, 49, 56, 66, 74, 82, 89] rfl rfl ?_
  repeat (first | refine Run.seq ?_ | refine Run.skip ?_)
  first | refine Run.condT rfl rfl ?_ | refine Run.condF rfl rfl ?_ | refine Run.condT rfl (by assumption) ?_ | refine Run.condF rfl (by assumption) ?_
  repeat (first | refine Run.seq ?_ | refine Run.skip ?_ | refine Run.block ?_)
  refine Run.region ?_
  first | refine O.cmp rfl rfl rfl (by first | exact decide_eq_true (by omega) | exact decide_eq_false (by omega)) rfl ?_ | refine O.cmp rfl rfl rfl rfl rfl ?_
  refine O.assign rfl rfl ?_
  refine O.nil ?_
  try refine Run.keep [0, 2, 3, 4, 5, 6, 7, 8, 9, 10, 11, 12, 13, 20, 27, 29, 32, 40, 45, 48, 49, 56, 66, 74, 82, 89] rfl rfl ?_
  repeat (first | refine Run.seq ?_ | refine Run.skip ?_)
  first | refine Run.condT rfl rfl ?_ | refine Run.condF rfl rfl ?_ | refine Run.condT rfl (by assumption) ?_ | refine Run.condF rfl (by assumption) ?_
  repeat (first | refine Run.seq ?_ | refine Run.skip ?_)
  first | refine Run.condT rfl rfl ?_ | refine Run.condF rfl rfl ?_ | refine Run.condT rfl (by assumption) ?_ | refine Run.condF rfl (by assumption) ?_
  repeat (first | refine Run.seq ?_ | refine Run.skip ?_ | refine Run.block ?_)
  refine Run.region ?_
  refine O.assign rfl rfl ?_
  refine O.nil ?_
  try refine Run.keep [0, 2, 3, 4, 5, 6, 7, 8, 9, 10, 11, 12, 13, 20, 27, 29, 32, 40, 45, 48, 49, 56, 66, 74, 82, 89] rfl rfl ?_
  repeat (first | refine Run.seq ?_ | refine Run.skip ?_ | refine Run.block ?_)
  refine Run.region ?_
  refine O.move rfl rfl ?_
  refine O.nil ?_
  try refine Run.keep [0, 2, 3, 4, 5, 6, 7, 8, 9, 10, 11, 12, 13, 20, 27, 29, 32, 40, 45, 48, 49, 56, 66, 74, 82, 89] rfl rfl ?_
  repeat (first | refine Run.seq ?_ | refine Run.skip ?_)
  refine Run.block ?_
  refine Run.loopInv (ι := Nat) (fun j => j ≤ 8) (fun j => ⟨92, [(0, cloD), (2, .ptr 2 0), (6, .ptr 6 0), (9, .pv (.int .u64 ((N / 2 ^ (64 - 8 * j) : Nat) : Int))), (48, .pv (.int .i64 (j : Int)))], [(8, .var [.pv (.int .i64 ((p + 1 + j : Nat) : Int))]), (3, .var [.pv (byv b)]), (9, .var [.pv (.int .u8 fl)]), (2, .var [.pv (.int .i64 0), .pv (.int .i64 0), .pv (.int .u64 0), .pv (.str ⟨#[]⟩)]), (6, .var [.pv (.int .i64 2), .pv (.int .i64 0), .pv (.int .u64 0), .pv (.str ⟨#[]⟩)])]⟩) (fun j => 8 - j) 0 (by omega) ?_ ?_
  ·
    have e0 := div64 N hNl
    rw [e0]
    exact (SLe.drop (by repeat (first | exact TmIn.nil | refine TmIn.cons rfl ?_)) (by repeat (first | exact BxIn.nil | refine BxIn.cons rfl ?_)) rfl rfl)
  rintro j hj ih
  by_cases hlt : j < 8
  ·
    have cn := c2 j hlt
    have e1 := eight_step N hlt
    have e2 := eight_lt N hNl hlt
    have e3 : N / 2 ^ (56 - 8 * j) % 256 < 256 := Nat.mod_lt _ (by decide)
    generalize N / 2 ^ (56 - 8 * j) % 256 = q at *
    have hs := shl8 e2
    have hor := or_low e2 e3
    have hcv := wr64V (n := q) (by omega)
    generalize N / 2 ^ (64 - 8 * j) = X at *
    repeat (first | refine Run.seq ?_ | refine Run.skip ?_ | refine Run.block ?_)
    refine Run.region ?_
    first | refine O.cmp rfl rfl rfl (by first | exact decide_eq_true (by omega) | exact decide_eq_false (by omega)) rfl ?_ | refine O.cmp rfl rfl rfl rfl rfl ?_
    refine O.nil ?_
    try refine Run.keep [0, 2, 3, 4, 5, 6, 7, 8, 9, 10, 11, 12, 13, 20, 27, 29, 32, 40, 45, 48, 49, 56, 66, 74, 82, 89] rfl rfl ?_
    repeat (first | refine Run.seq ?_ | refine Run.skip ?_)
    first | refine Run.condT rfl rfl ?_ | refine Run.condF rfl rfl ?_ | refine Run.condT rfl (by assumption) ?_ | refine Run.condF rfl (by assumption) ?_
    repeat (first | refine Run.seq ?_ | refine Run.skip ?_ | refine Run.block ?_)
    refine Run.region ?_
    refine O.move rfl rfl ?_
    refine O.lend (ln := lnD) cn rfl rfl rfl (.inl rfl) (by repeat (first | exact BxIn.nil | refine BxIn.cons rfl ?_)) rfl rfl rfl rfl rfl rfl rfl rfl rfl rfl ?_
    refine O.move rfl rfl ?_
    refine O.extract rfl rfl rfl ?_
    refine O.extract rfl rfl rfl ?_
    refine O.assign rfl rfl ?_
    refine O.assign rfl rfl ?_
    refine O.nil ?_
    try refine Run.keep [0, 2, 3, 4, 5, 6, 7, 8, 9, 10, 11, 12, 13, 20, 27, 29, 32, 40, 45, 48, 49, 56, 66, 74, 82, 89] rfl rfl ?_
    repeat (first | refine Run.seq ?_ | refine Run.skip ?_ | refine Run.block ?_)
    refine Run.region ?_
    refine O.move rfl rfl ?_
    refine O.un rfl rfl rfl rfl rfl ?_
    refine O.nil ?_
    try refine Run.keep [0, 2, 3, 4, 5, 6, 7, 8, 9, 10, 11, 12, 13, 20, 27, 29, 32, 40, 45, 48, 49, 56, 66, 74, 82, 89] rfl rfl ?_
    repeat (first | refine Run.seq ?_ | refine Run.skip ?_)
    first | refine Run.condT rfl rfl ?_ | refine Run.condF rfl rfl ?_ | refine Run.condT rfl (by assumption) ?_ | refine Run.condF rfl (by assumption) ?_
    repeat (first | refine Run.seq ?_ | refine Run.skip ?_ | refine Run.block ?_)
    refine Run.region ?_
    refine O.move rfl rfl ?_
    refine O.shl rfl rfl (by omega) rfl ?_; rw [hs]
    refine O.move rfl rfl ?_
    refine O.conv hE T5 T58 rfl rfl rfl ?_; rw [hcv]
    refine O.bit rfl rfl hor rfl ?_
    refine O.assign rfl rfl ?_
    refine O.nil ?_
    try refine Run.keep [0, 2, 3, 4, 5, 6, 7, 8, 9, 10, 11, 12, 13, 20, 27, 29, 32, 40, 45, 48, 49, 56, 66, 74, 82, 89] rfl rfl ?_
    repeat (first | refine Run.seq ?_ | refine Run.skip ?_ | refine Run.block ?_)
    refine Run.region ?_
    first | refine O.ar rfl rfl rfl (by exact wrap_i64 (by omega) (by omega)) rfl ?_ | refine O.ar rfl rfl rfl rfl rfl ?_
    refine O.move rfl rfl ?_
    refine O.nil ?_
    try refine Run.keep [0, 2, 3, 4, 5, 6, 7, 8, 9, 10, 11, 12, 13, 20, 27, 29, 32, 40, 45, 48, 49, 56, 66, 74, 82, 89] rfl rfl ?_
    refine ih (j + 1) _ ?_ (by omega) (by omega)
    rw [e1]
    exact (SLe.drop (by repeat (first | exact TmIn.nil | refine TmIn.cons rfl ?_)) (by repeat (first | exact BxIn.nil | refine BxIn.cons rfl ?_)) rfl rfl)
  obtain rfl : j = 8 := by omega
  rw [show N / 2 ^ (64 - 8 * 8) = N by rw [show 64 - 8 * 8 = 0 by decide, Nat.pow_zero, Nat.div_one]]
  repeat (first | refine Run.seq ?_ | refine Run.skip ?_ | refine Run.block ?_)
  refine Run.region ?_
  first | refine O.cmp rfl rfl rfl (by first | exact decide_eq_true (by omega) | exact decide_eq_false (by omega)) rfl ?_ | refine O.cmp rfl rfl rfl rfl rfl ?_
  refine O.nil ?_
  try refine Run.keep [0, 2, 3, 4, 5, 6, 7, 8, 9, 10, 11, 12, 13, 20, 27, 29, 32, 40, 45, 48, 49, 56, 66, 74, 82, 89] rfl rfl ?_
  repeat (first | refine Run.seq ?_ | refine Run.skip ?_)
  first | refine Run.condT rfl rfl ?_ | refine Run.condF rfl rfl ?_ | refine Run.condT rfl (by assumption) ?_ | refine Run.condF rfl (by assumption) ?_
  refine Run.exit ?_
  repeat (first | refine thenR_exit ?_ | refine roundR_exit ?_ | refine blockR_exit ?_ | refine blockR_pass rfl ?_)
  repeat (first | refine Run.seq ?_ | refine Run.skip ?_ | refine Run.block ?_)
  refine Run.region ?_
  refine O.field hE L60 rfl rfl rfl rfl ?_
  first | refine O.loadS hE T3 rfl rfl rfl (by rfl) rfl ?_ | refine O.loadE hE T3 rfl rfl (by rfl) rfl ?_ | refine O.load hE T3 rfl rfl rfl rfl ?_
  first | refine O.cmp rfl rfl rfl (by first | exact decide_eq_true (by omega) | exact decide_eq_false (by omega)) rfl ?_ | refine O.cmp rfl rfl rfl rfl rfl ?_
  refine O.nil ?_
  try refine Run.keep [0, 2, 3, 4, 5, 6, 7, 8, 9, 10, 11, 12, 13, 20, 27, 29, 32, 40, 45, 48, 49, 56, 66, 74, 82, 89] rfl rfl ?_
  repeat (first | refine Run.seq ?_ | refine Run.skip ?_)
  first | refine Run.condT rfl rfl ?_ | refine Run.condF rfl rfl ?_ | refine Run.condT rfl (by assumption) ?_ | refine Run.condF rfl (by assumption) ?_
  repeat (first | refine Run.seq ?_ | refine Run.skip ?_ | refine Run.block ?_)
  refine Run.region ?_
  refine O.move rfl rfl ?_
  refine O.bit rfl rfl hx rfl ?_
  refine O.conv hE T58 T3 rfl rfl rfl ?_; rw [hw]
  refine O.field hE L60 rfl rfl rfl rfl ?_
  refine O.store hE T3 rfl rfl rfl rfl rfl rfl ?_
  refine O.nil ?_
  try refine Run.keep [0, 2, 3, 4, 5, 6, 7, 8, 9, 10, 11, 12, 13, 20, 27, 29, 32, 40, 45, 48, 49, 56, 66, 74, 82, 89] rfl rfl ?_
  repeat (first | refine Run.seq ?_ | refine Run.skip ?_ | refine Run.block ?_)
  refine Run.region ?_
  refine O.load hE T60 rfl rfl rfl rfl ?_
  refine O.callE c3 rfl (by first | rfl | simp [closed, men3, mens2_app, mens2_ints, mens2, men2, men1, mens1_app, mens1_ints, mens1]) (by first | rfl | simp [d2, ds1_ints, ds1_app, ds1, d1, ds0_app, ds0_ints, ds0, d0]) rfl ?_
  first | refine O.cmp rfl rfl rfl (by first | exact decide_eq_true (by omega) | exact decide_eq_false (by omega)) rfl ?_ | refine O.cmp rfl rfl rfl rfl rfl ?_
  refine O.nil ?_
  try refine Run.keep [0, 2, 3, 4, 5, 6, 7, 8, 9, 10, 11, 12, 13, 20, 27, 29, 32, 40, 45, 48, 49, 56, 66, 74, 82, 89] rfl rfl ?_
  repeat (first | refine Run.seq ?_ | refine Run.skip ?_)
  first | refine Run.condT rfl rfl ?_ | refine Run.condF rfl rfl ?_ | refine Run.condT rfl (by assumption) ?_ | refine Run.condF rfl (by assumption) ?_
  repeat (first | refine Run.seq ?_ | refine Run.skip ?_ | refine Run.block ?_)
  refine Run.region ?_
  refine O.load hE T60 rfl rfl rfl rfl ?_
  refine O.store hE T60 rfl rfl rfl rfl rfl rfl ?_
  refine O.assign rfl rfl ?_
  refine O.nil ?_
  try refine Run.keep [0, 2, 3, 4, 5, 6, 7, 8, 9, 10, 11, 12, 13, 20, 27, 29, 32, 40, 45, 48, 49, 56, 66, 74, 82, 89] rfl rfl ?_
  refine Run.ret ?_
  repeat (first | refine thenR_ret ?_ | refine roundR_ret ?_ | refine blockR_ret ?_)
  exact Ends.of hE (.inr rfl) rfl rfl (SLe.drop (by repeat (first | exact TmIn.nil | refine TmIn.cons rfl ?_)) (by repeat (first | exact BxIn.nil | refine BxIn.cons rfl ?_)) rfl rfl)
theorem read_real (hV : VStr g) {n : Nat} (hn : FinW n) : ReadOk g ⟨3, 0, (n : Int), ⟨#[]⟩⟩ := by
  intro b p B rest hb h
  have ho : oneP ⟨3, 0, (n : Int), ⟨#[]⟩⟩ = 4 :: eightU (turnU n) := by
    show 4 :: eightU (turnU (n : Int).toNat) = _
    rw [Int.toNat_natCast]
  have hNl : turnU n < 18446744073709551616 := by unfold turnU; have := hn.1; split <;> omega
  have cb := (fnBack (g := g) (turnU n) hNl).lent lnD
  rw [back_turn n hn.1] at cb
  rw [ho] at h ⊢
  have hE := EnLOk g lnD
  have c1 := next_fit (g := g) (i := 0) hb h rfl (by omega)
  have c3 := (fnCheck hV (Good.real n hn)).lent lnD
  dsimp only [vlA] at c3
  rw [Nat.add_zero] at c1
  have hlen : (4 :: eightU (turnU n)).length = 9 := by rw [List.length_cons, eightU_len]
  rw [hlen]
  show FnL _ _ _ _ (.tup [.agg [.pv (.int .i64 3), .pv (.int .i64 0), .pv (.int .u64 (n : Int)), .pv (.str ⟨#[]⟩)], .pv (.int .i64 0)]) (bD b (p + 9) (flB B))
  have c2 : ∀ j, j < 8 → FnL (EnL Tryd.prog g lnD) 29 [.ptr 8 0, .ptr 3 0, .ptr 9 0] (bD b (p + 1 + j) (flB B)) (.tup [.pv (.int .u8 (((turnU n) / 2 ^ (56 - 8 * j) % 256 : Nat) : Int)), .pv (.bool true)]) (bD b (p + 1 + (j + 1)) (flB B)) := fun j hj => by
    have := next_fit (g := g) (i := j + 1) hb h (eightU_at (turnU n) hj) (by omega)
    rwa [show p + (j + 1) = p + 1 + j by omega, show p + 1 + j + 1 = p + 1 + (j + 1) by omega] at this
  generalize (turnU n) = N at *
  generalize flB B = fl at *
  clear ho h hlen
  refine FnL.of Tryd.func30 rfl rfl rfl rfl ?_
  repeat (first | refine Run.seq ?_ | refine Run.skip ?_ | refine Run.block ?_)
  refine Run.region ?_
  refine O.alloc hE 2 T60 rfl rfl rfl ?_
  refine O.assign rfl rfl ?_
  refine O.nil ?_
  try refine Run.keep [0, 2, 3, 4, 5, 6, 7, 8, 9, 10, 11, 12, 13, 20, 27, 29, 32, 40, 45, 48, 49, 56, 66, 74, 82, 89] rfl rfl ?_
  repeat (first | refine Run.seq ?_ | refine Run.skip ?_ | refine Run.block ?_)
  refine Run.region ?_
  refine O.move rfl rfl ?_
  refine O.lend (ln := lnD) c1 rfl rfl rfl (.inl rfl) (by repeat (first | exact BxIn.nil | refine BxIn.cons rfl ?_)) rfl rfl rfl rfl rfl rfl rfl rfl rfl rfl ?_
  refine O.move rfl rfl ?_
  refine O.extract rfl rfl rfl ?_
  refine O.extract rfl rfl rfl ?_
  refine O.assign rfl rfl ?_
  refine O.assign rfl rfl ?_
  refine O.nil ?_
  try refine Run.keep [0, 2, 3, 4, 5, 6, 7, 8, 9, 10, 11, 12, 13, 20, 27, 29, 32, 40, 45, 48, 49, 56, 66, 74, 82, 89] rfl rfl ?_
  repeat (first | refine Run.seq ?_ | refine Run.skip ?_ | refine Run.block ?_)
  refine Run.region ?_
  refine O.move rfl rfl ?_
  refine O.un rfl rfl rfl rfl rfl ?_
  refine O.nil ?_
  try refine Run.keep [0, 2, 3, 4, 5, 6, 7, 8, 9, 10, 11, 12, 13, 20, 27, 29, 32, 40, 45, 48, 49, 56, 66, 74, 82, 89] rfl rfl ?_
  repeat (first | refine Run.seq ?_ | refine Run.skip ?_)
  first | refine Run.condT rfl rfl ?_ | refine Run.condF rfl rfl ?_ | refine Run.condT rfl (by assumption) ?_ | refine Run.condF rfl (by assumption) ?_
  repeat (first | refine Run.seq ?_ | refine Run.skip ?_ | refine Run.block ?_)
  refine Run.region ?_
  refine O.move rfl rfl ?_
  refine O.conv hE T5 T3 rfl rfl rfl ?_
  first | refine O.ar rfl rfl rfl (by exact wrap_i64 (by omega) (by omega)) rfl ?_ | refine O.ar rfl rfl rfl rfl rfl ?_
  refine O.build hE T60 L60 rfl rfl rfl ?_
  refine O.alloc hE 6 T60 rfl rfl rfl ?_
  refine O.store hE T60 rfl rfl rfl rfl rfl rfl ?_
  refine O.nil ?_
  try refine Run.keep [0, 2, 3, 4, 5, 6, 7, 8, 9, 10, 11, 12, 13, 20, 27, 29, 32, 40, 45, 48, 49, 56, 66, 74, 82, 89] rfl rfl ?_
  repeat (first | refine Run.seq ?_ | refine Run.skip ?_ | refine Run.block ?_)
  refine Run.region ?_
  refine O.field hE L60 rfl rfl rfl rfl ?_
  first | refine O.loadS hE T3 rfl rfl rfl (by rfl) rfl ?_ | refine O.loadE hE T3 rfl rfl (by rfl) rfl ?_ | refine O.load hE T3 rfl rfl rfl rfl ?_
  refine O.nil ?_
  try refine Run.keep [0, 2, 3, 4, 5, 6, 7, 8, 9, 10, 11, 12, 13, 20, 27, 29, 32, 40, 45, 48, 49, 56, 66, 74, 82, 89] rfl rfl ?_
  repeat (first | refine Run.seq ?_ | refine Run.skip ?_ | refine Run.block ?_)
  refine Run.region ?_
  first | refine O.cmp rfl rfl rfl (by first | exact decide_eq_true (by omega) | exact decide_eq_false (by omega)) rfl ?_ | refine O.cmp rfl rfl rfl rfl rfl ?_
  refine O.assign rfl rfl ?_
  refine O.nil ?_
  try refine Run.keep [0, 2, 3, 4, 5, 6, 7, 8, 9, 10, 11, 12, 13, 20, 27, 29, 32, 40, 45, 48, 49, 56, 66, 74, 82, 89] rfl rfl ?_
  repeat (first | refine Run.seq ?_ | refine Run.skip ?_)
  first | refine Run.condT rfl rfl ?_ | refine Run.condF rfl rfl ?_ | refine Run.condT rfl (by assumption) ?_ | refine Run.condF rfl (by assumption) ?_
  repeat (first | refine Run.seq ?_ | refine Run.skip ?_ | refine Run.block ?_)
  refine Run.region ?_
  first | refine O.cmp rfl rfl rfl (by first | exact decide_eq_true (by omega) | exact decide_eq_false (by omega)) rfl ?_ | refine O.cmp rfl rfl rfl rfl rfl ?_
  refine O.assign rfl rfl ?_
  refine O.nil ?_
  try refine Run.keep [0, 2, 3, 4, 5, 6, 7, 8, 9, 10, 11, 12, 13, 20, 27, 29, 32, 40, 45, 48, 49, 56, 66, 74, 82, 89] rfl rfl ?_
  repeat (first | refine Run.seq ?_ | refine Run.skip ?_)
  first | refine Run.condT rfl rfl ?_ | refine Run.condF rfl rfl ?_ | refine Run.condT rfl (by assumption) ?_ | refine Run.condF rfl (by assumption) ?_
  repeat (first | refine Run.seq ?_ | refine Run.skip ?_ | refine Run.block ?_)
  refine Run.region ?_
  first | refine O.cmp rfl rfl rfl (by first | exact decide_eq_true (by omega) | exact decide_eq_false (by omega)) rfl ?_ | refine O.cmp rfl rfl rfl rfl rfl ?_
  refine O.assign rfl rfl ?_
  refine O.nil ?_
  try refine Run.keep [0, 2, 3, 4, 5, 6, 7, 8, 9, 10, 11, 12, 13, 20, 27, 29, 32, 40, 45, 48, 49, 56, 66, 74, 82, 89] rfl rfl ?_
  repeat (first | refine Run.seq ?_ | refine Run.skip ?_)
  first | refine Run.condT rfl rfl ?_ | refine Run.condF rfl rfl ?_ | refine Run.condT rfl (by assumption) ?_ | refine Run.condF rfl (by assumption) ?_
  repeat (first | refine Run.seq ?_ | refine Run.skip ?_ | refine Run.block ?_)
  refine Run.region ?_
  first | refine O.cmp rfl rfl rfl (by first | exact decide_eq_true (by omega) | exact decide_eq_false (by omega)) rfl ?_ | refine O.cmp rfl rfl rfl rfl rfl ?_
  refine O.assign rfl rfl ?_
  refine O.nil ?_
  try refine Run.keep [0, 2, 3, 4, 5, 6, 7, 8, 9, 10, 11, 12, 13, 20, 27, 29, 32, 40, 45, 48, 49, 56, 66, 74, 82, 89] rfl rfl ?_
  repeat (first | refine Run.seq ?_ | refine Run.skip ?_)
  first | refine Run.condT rfl rfl ?_ | refine Run.condF rfl rfl ?_ | refine Run.condT rfl (by assumption) ?_ | refine Run.condF rfl (by assumption) ?_
  repeat (first | refine Run.seq ?_ | refine Run.skip ?_ | refine Run.block ?_)
  refine Run.region ?_
  refine O.assign rfl rfl ?_
  refine O.nil ?_
  try refine Run.keep [0, 2, 3, 4, 5, 6, 7, 8, 9, 10, 11, 12, 13, 20, 27, 29, 32, 40, 45, 48, 49, 56, 66, 74, 82, 89] rfl rfl ?_
  repeat (first | refine Run.seq ?_ | refine Run.skip ?_ | refine Run.block ?_)
  refine Run.region ?_
  refine O.move rfl rfl ?_
  refine O.nil ?_
  try refine Run.keep [0, 2, 3, 4, 5, 6, 7, 8, 9, 10, 11, 12, 13, 20, 27, 29, 32, 40, 45, 48, 49, 56, 66, 74, 82, 89] rfl rfl ?_
  repeat (first | refine Run.seq ?_ | refine Run.skip ?_)
  refine Run.block ?_
  refine Run.loopInv (ι := Nat) (fun j => j ≤ 8) (fun j => ⟨92, [(0, cloD), (2, .ptr 2 0), (6, .ptr 6 0), (9, .pv (.int .u64 ((N / 2 ^ (64 - 8 * j) : Nat) : Int))), (48, .pv (.int .i64 (j : Int)))], [(8, .var [.pv (.int .i64 ((p + 1 + j : Nat) : Int))]), (3, .var [.pv (byv b)]), (9, .var [.pv (.int .u8 fl)]), (2, .var [.pv (.int .i64 0), .pv (.int .i64 0), .pv (.int .u64 0), .pv (.str ⟨#[]⟩)]), (6, .var [.pv (.int .i64 3), .pv (.int .i64 0), .pv (.int .u64 0), .pv (.str ⟨#[]⟩)])]⟩) (fun j => 8 - j) 0 (by omega) ?_ ?_
  ·
    have e0 := div64 N hNl
    rw [e0]
    exact (SLe.drop (by repeat (first | exact TmIn.nil | refine TmIn.cons rfl ?_)) (by repeat (first | exact BxIn.nil | refine BxIn.cons rfl ?_)) rfl rfl)
  rintro j hj ih
  by_cases hlt : j < 8
  ·
    have cn := c2 j hlt
    have e1 := eight_step N hlt
    have e2 := eight_lt N hNl hlt
    have e3 : N / 2 ^ (56 - 8 * j) % 256 < 256 := Nat.mod_lt _ (by decide)
    generalize N / 2 ^ (56 - 8 * j) % 256 = q at *
    have hs := shl8 e2
    have hor := or_low e2 e3
    have hcv := wr64V (n := q) (by omega)
    generalize N / 2 ^ (64 - 8 * j) = X at *
    repeat (first | refine Run.seq ?_ | refine Run.skip ?_ | refine Run.block ?_)
    refine Run.region ?_
    first | refine O.cmp rfl rfl rfl (by first | exact decide_eq_true (by omega) | exact decide_eq_false (by omega)) rfl ?_ | refine O.cmp rfl rfl rfl rfl rfl ?_
    refine O.nil ?_
    try refine Run.keep [0, 2, 3, 4, 5, 6, 7, 8, 9, 10, 11, 12, 13, 20, 27, 29, 32, 40, 45, 48, 49, 56, 66, 74, 82, 89] rfl rfl ?_
    repeat (first | refine Run.seq ?_ | refine Run.skip ?_)
    first | refine Run.condT rfl rfl ?_ | refine Run.condF rfl rfl ?_ | refine Run.condT rfl (by assumption) ?_ | refine Run.condF rfl (by assumption) ?_
    repeat (first | refine Run.seq ?_ | refine Run.skip ?_ | refine Run.block ?_)
    refine Run.region ?_
    refine O.move rfl rfl ?_
    refine O.lend (ln := lnD) cn rfl rfl rfl (.inl rfl) (by repeat (first | exact BxIn.nil | refine BxIn.cons rfl ?_)) rfl rfl rfl rfl rfl rfl rfl rfl rfl rfl ?_
    refine O.move rfl rfl ?_
    refine O.extract rfl rfl rfl ?_
    refine O.extract rfl rfl rfl ?_
    refine O.assign rfl rfl ?_
    refine O.assign rfl rfl ?_
    refine O.nil ?_
    try refine Run.keep [0, 2, 3, 4, 5, 6, 7, 8, 9, 10, 11, 12, 13, 20, 27, 29, 32, 40, 45, 48, 49, 56, 66, 74, 82, 89] rfl rfl ?_
    repeat (first | refine Run.seq ?_ | refine Run.skip ?_ | refine Run.block ?_)
    refine Run.region ?_
    refine O.move rfl rfl ?_
    refine O.un rfl rfl rfl rfl rfl ?_
    refine O.nil ?_
    try refine Run.keep [0, 2, 3, 4, 5, 6, 7, 8, 9, 10, 11, 12, 13, 20, 27, 29, 32, 40, 45, 48, 49, 56, 66, 74, 82, 89] rfl rfl ?_
    repeat (first | refine Run.seq ?_ | refine Run.skip ?_)
    first | refine Run.condT rfl rfl ?_ | refine Run.condF rfl rfl ?_ | refine Run.condT rfl (by assumption) ?_ | refine Run.condF rfl (by assumption) ?_
    repeat (first | refine Run.seq ?_ | refine Run.skip ?_ | refine Run.block ?_)
    refine Run.region ?_
    refine O.move rfl rfl ?_
    refine O.shl rfl rfl (by omega) rfl ?_; rw [hs]
    refine O.move rfl rfl ?_
    refine O.conv hE T5 T58 rfl rfl rfl ?_; rw [hcv]
    refine O.bit rfl rfl hor rfl ?_
    refine O.assign rfl rfl ?_
    refine O.nil ?_
    try refine Run.keep [0, 2, 3, 4, 5, 6, 7, 8, 9, 10, 11, 12, 13, 20, 27, 29, 32, 40, 45, 48, 49, 56, 66, 74, 82, 89] rfl rfl ?_
    repeat (first | refine Run.seq ?_ | refine Run.skip ?_ | refine Run.block ?_)
    refine Run.region ?_
    first | refine O.ar rfl rfl rfl (by exact wrap_i64 (by omega) (by omega)) rfl ?_ | refine O.ar rfl rfl rfl rfl rfl ?_
    refine O.move rfl rfl ?_
    refine O.nil ?_
    try refine Run.keep [0, 2, 3, 4, 5, 6, 7, 8, 9, 10, 11, 12, 13, 20, 27, 29, 32, 40, 45, 48, 49, 56, 66, 74, 82, 89] rfl rfl ?_
    refine ih (j + 1) _ ?_ (by omega) (by omega)
    rw [e1]
    exact (SLe.drop (by repeat (first | exact TmIn.nil | refine TmIn.cons rfl ?_)) (by repeat (first | exact BxIn.nil | refine BxIn.cons rfl ?_)) rfl rfl)
  obtain rfl : j = 8 := by omega
  rw [show N / 2 ^ (64 - 8 * 8) = N by rw [show 64 - 8 * 8 = 0 by decide, Nat.pow_zero, Nat.div_one]]
  repeat (first | refine Run.seq ?_ | refine Run.skip ?_ | refine Run.block ?_)
  refine Run.region ?_
  first | refine O.cmp rfl rfl rfl (by first | exact decide_eq_true (by omega) | exact decide_eq_false (by omega)) rfl ?_ | refine O.cmp rfl rfl rfl rfl rfl ?_
  refine O.nil ?_
  try refine Run.keep [0, 2, 3, 4, 5, 6, 7, 8, 9, 10, 11, 12, 13, 20, 27, 29, 32, 40, 45, 48, 49, 56, 66, 74, 82, 89] rfl rfl ?_
  repeat (first | refine Run.seq ?_ | refine Run.skip ?_)
  first | refine Run.condT rfl rfl ?_ | refine Run.condF rfl rfl ?_ | refine Run.condT rfl (by assumption) ?_ | refine Run.condF rfl (by assumption) ?_
  refine Run.exit ?_
  repeat (first | refine thenR_exit ?_ | refine roundR_exit ?_ | refine blockR_exit ?_ | refine blockR_pass rfl ?_)
  repeat (first | refine Run.seq ?_ | refine Run.skip ?_ | refine Run.block ?_)
  refine Run.region ?_
  refine O.field hE L60 rfl rfl rfl rfl ?_
  first | refine O.loadS hE T3 rfl rfl rfl (by rfl) rfl ?_ | refine O.loadE hE T3 rfl rfl (by rfl) rfl ?_ | refine O.load hE T3 rfl rfl rfl rfl ?_
  first | refine O.cmp rfl rfl rfl (by first | exact decide_eq_true (by omega) | exact decide_eq_false (by omega)) rfl ?_ | refine O.cmp rfl rfl rfl rfl rfl ?_
  refine O.nil ?_
  try refine Run.keep [0, 2, 3, 4, 5, 6, 7, 8, 9, 10, 11, 12, 13, 20, 27, 29, 32, 40, 45, 48, 49, 56, 66, 74, 82, 89] rfl rfl ?_
  repeat (first | refine Run.seq ?_ | refine Run.skip ?_)
  first | refine Run.condT rfl rfl ?_ | refine Run.condF rfl rfl ?_ | refine Run.condT rfl (by assumption) ?_ | refine Run.condF rfl (by assumption) ?_
  repeat (first | refine Run.seq ?_ | refine Run.skip ?_ | refine Run.block ?_)
  refine Run.region ?_
  refine O.move rfl rfl ?_
  refine O.callE cb rfl (by first | rfl | simp [closed, men3, mens2_app, mens2_ints, mens2, men2, men1, mens1_app, mens1_ints, mens1]) (by first | rfl | simp [d2, ds1_ints, ds1_app, ds1, d1, ds0_app, ds0_ints, ds0, d0]) rfl ?_
  refine O.field hE L60 rfl rfl rfl rfl ?_
  refine O.store hE T58 rfl rfl rfl rfl rfl rfl ?_
  refine O.nil ?_
  try refine Run.keep [0, 2, 3, 4, 5, 6, 7, 8, 9, 10, 11, 12, 13, 20, 27, 29, 32, 40, 45, 48, 49, 56, 66, 74, 82, 89] rfl rfl ?_
  repeat (first | refine Run.seq ?_ | refine Run.skip ?_ | refine Run.block ?_)
  refine Run.region ?_
  refine O.load hE T60 rfl rfl rfl rfl ?_
  refine O.callE c3 rfl (by first | rfl | simp [closed, men3, mens2_app, mens2_ints, mens2, men2, men1, mens1_app, mens1_ints, mens1]) (by first | rfl | simp [d2, ds1_ints, ds1_app, ds1, d1, ds0_app, ds0_ints, ds0, d0]) rfl ?_
  first | refine O.cmp rfl rfl rfl (by first | exact decide_eq_true (by omega) | exact decide_eq_false (by omega)) rfl ?_ | refine O.cmp rfl rfl rfl rfl rfl ?_
  refine O.nil ?_
  try refine Run.keep [0, 2, 3, 4, 5, 6, 7, 8, 9, 10, 11, 12, 13, 20, 27, 29, 32, 40, 45, 48, 49, 56, 66, 74, 82, 89] rfl rfl ?_
  repeat (first | refine Run.seq ?_ | refine Run.skip ?_)
  first | refine Run.condT rfl rfl ?_ | refine Run.condF rfl rfl ?_ | refine Run.condT rfl (by assumption) ?_ | refine Run.condF rfl (by assumption) ?_
  repeat (first | refine Run.seq ?_ | refine Run.skip ?_ | refine Run.block ?_)
  refine Run.region ?_
  refine O.load hE T60 rfl rfl rfl rfl ?_
  refine O.store hE T60 rfl rfl rfl rfl rfl rfl ?_
  refine O.assign rfl rfl ?_
  refine O.nil ?_
  try refine Run.keep [0, 2, 3, 4, 5, 6, 7, 8, 9, 10, 11, 12, 13, 20, 27, 29, 32, 40, 45, 48, 49, 56, 66, 74, 82, 89] rfl rfl ?_
  refine Run.ret ?_
  repeat (first | refine thenR_ret ?_ | refine roundR_ret ?_ | refine blockR_ret ?_)
  exact Ends.of hE (.inr rfl) rfl rfl (SLe.drop (by repeat (first | exact TmIn.nil | refine TmIn.cons rfl ?_)) (by repeat (first | exact BxIn.nil | refine BxIn.cons rfl ?_)) rfl rfl)
end Go.Proofs.YtalcpfpjkfpmbaaDoor.Vm
