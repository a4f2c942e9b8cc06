/- A value is read as it was written: truths, numbers, reals. Conditions: what utf8.ValidString answers. -/
import Derived.Test.YtalcpfpjkfpmbaaDoorCodeG
namespace Go.Proofs.YtalcpfpjkfpmbaaDoor.Vm
open Go Go.RowKit Go.Lib
set_option linter.unusedVariables false
set_option linter.unusedSimpArgs false
attribute [local irreducible] Ops Dr Run eightU esc turnU
variable {g : Nat → Option (List PV)}
theorem next_fit {b O rest : List Int} {p i : Nat} {B : Bool} {c : Int} (hb : b.length ≤ 9223372036854775807) (h : b.drop p = O.map (flipB B) ++ rest) (hc : O[i]? = some c) (h8 : 0 ≤ c ∧ c < 256) :
    FnL (EnL Tryd.prog g lnD) 29 [.ptr 8 0, .ptr 3 0, .ptr 9 0] (bD b (p + i) (flB B)) (.tup [.pv (.int .u8 c), .pv (.bool true)]) (bD b (p + i + 1) (flB B)) :=
  fnNext (g := g) (b := b) (p := p + i) (by omega) (read_at h hc) (flip_back B h8)
theorem eightU_at (N : Nat) {i : Nat} (h : i < 8) : (eightU N)[i]? = some ((N / 2 ^ (56 - 8 * i) % 256 : Nat) : Int) := by
  unfold eightU
  rw [List.getElem?_map, List.getElem?_range h]; rfl
theorem or_low {x c : Nat} (hx : x < 72057594037927936) (hc : c < 256) : bitI .or .u64 ((x * 256 : Nat) : Int) (c : Int) = some ((x * 256 + c : Nat) : Int) := by
  have := u64_or_nat (x * 256) c (by omega) (by omega)
  have e := Nat.two_pow_add_eq_or_of_lt (i := 8) (b := c) (by omega) x
  rw [show (2 : Nat) ^ 8 = 256 from rfl, Nat.mul_comm] at e
  rw [← e] at this
  exact congrArg some this
theorem shl8 {x : Nat} (hx : x < 72057594037927936) : IntKind.u64.wrap ((x : Int) * 2 ^ (min (Int.toNat 8) IntKind.u64.bits)) = ((x * 256 : Nat) : Int) := by
  have e : (2 : Int) ^ 8 = 256 := by decide
  rw [show min (Int.toNat 8) IntKind.u64.bits = 8 from rfl, e, IntKind.wrap_u64]
  omega
theorem eight_step (N : Nat) {j : Nat} (hj : j < 8) : N / 2 ^ (64 - 8 * (j + 1)) = N / 2 ^ (64 - 8 * j) * 256 + N / 2 ^ (56 - 8 * j) % 256 := by
  have e1 : 64 - 8 * (j + 1) = 56 - 8 * j := by omega
  have e2 : 64 - 8 * j = 56 - 8 * j + 8 := by omega
  rw [e1, e2, Nat.pow_add, ← Nat.div_div_eq_div_mul, show (2 : Nat) ^ 8 = 256 from rfl]
  omega
theorem eight_lt (N : Nat) (hN : N < 18446744073709551616) {j : Nat} (hj : j < 8) : N / 2 ^ (64 - 8 * j) < 72057594037927936 := by
  have h1 : 2 ^ 8 ≤ 2 ^ (64 - 8 * j) := Nat.pow_le_pow_right (by decide) (by omega)
  rw [show (2 : Nat) ^ 8 = 256 from rfl] at h1
  exact Nat.div_lt_of_lt_mul (Nat.lt_of_lt_of_le (by omega) (Nat.mul_le_mul_right _ h1))
/-- The bits of a real, back. -/
def backU (N : Nat) : Nat := if 9223372036854775808 ≤ N then N - 9223372036854775808 else 18446744073709551615 - N
theorem back_turn (n : Nat) (h : n < 18446744073709551616) : backU (turnU n) = n := by
  unfold backU turnU
  split <;> split <;> omega
theorem andNot_top (N : Nat) (hN : N < 18446744073709551616) (h : 9223372036854775808 ≤ N) : bitI .andNot .u64 (N : Int) 9223372036854775808 = some ((N - 9223372036854775808 : Nat) : Int) := by
  have h0 : bitI .andNot .u64 (N : Int) 9223372036854775808 = some (IntKind.u64.wrap ((BitVec.ofInt 64 (N : Int) &&& ~~~(BitVec.ofInt 64 9223372036854775808)).toNat : Int)) := rfl
  have h1 : ~~~(BitVec.ofInt 64 9223372036854775808) = BitVec.ofNat 64 9223372036854775807 := by decide
  rw [h0, h1, BitVec.toNat_and, ofInt_u64 N hN, BitVec.toNat_ofNat]
  have e := Nat.and_two_pow_sub_one_eq_mod N 63
  have e63 : (2 : Nat) ^ 63 = 9223372036854775808 := by decide +kernel
  rw [e63, show 9223372036854775808 - 1 = 9223372036854775807 from rfl] at e
  have e64 : (9223372036854775807 : Nat) % 2 ^ 64 = 9223372036854775807 := by decide +kernel
  rw [e64, e, IntKind.wrap_u64]
  exact congrArg some (by omega)
theorem fnBack (N : Nat) (hN : N < 18446744073709551616) : FnC (En Tryd.prog g) 40 [.pv (.int .u64 (N : Int))] (.pv (.int .u64 (backU N : Int))) [] := by
  have hE := EnOk g
  have h1 : bitI .and .u64 (N : Int) 9223372036854775808 = some ((if 9223372036854775808 ≤ N then 9223372036854775808 else 0 : Nat) : Int) := by
    have := u64_and_nat N 9223372036854775808 hN (by decide)
    rw [top_and N hN] at this
    exact congrArg some this
  have h2 := not64 N hN
  by_cases hc : 9223372036854775808 ≤ N
  ·
    rw [if_pos hc] at h1
    have h3 := andNot_top N hN hc
    have ht : backU N = N - 9223372036854775808 := by unfold backU; rw [if_pos hc]
    rw [ht]
    refine FnC.of Tryd.func40 rfl rfl rfl rfl ?_
    repeat (first | refine Run.seq ?_ | refine Run.skip ?_ | refine Run.block ?_)
    refine Run.region ?_
    refine O.assign rfl rfl ?_
    refine O.nil ?_
    try refine Run.keep [0, 2, 5] rfl rfl ?_
    repeat (first | refine Run.seq ?_ | refine Run.skip ?_ | refine Run.block ?_)
    refine Run.region ?_
    refine O.move rfl rfl ?_
    refine O.bit rfl rfl h1 rfl ?_
    first | refine O.cmp rfl rfl rfl (by first | exact decide_eq_true (by omega) | exact decide_eq_false (by omega)) rfl ?_ | refine O.cmp rfl rfl rfl rfl rfl ?_
    refine O.nil ?_
    try refine Run.keep [0, 2, 5] rfl rfl ?_
    repeat (first | refine Run.seq ?_ | refine Run.skip ?_)
    first | refine Run.condT rfl rfl ?_ | refine Run.condF rfl rfl ?_ | refine Run.condT rfl (by assumption) ?_ | refine Run.condF rfl (by assumption) ?_
    repeat (first | refine Run.seq ?_ | refine Run.skip ?_ | refine Run.block ?_)
    refine Run.region ?_
    refine O.move rfl rfl ?_
    refine O.bit rfl rfl h3 rfl ?_
    refine O.assign rfl rfl ?_
    refine O.nil ?_
    try refine Run.keep [0, 2, 5] rfl rfl ?_
    (repeat (first | refine Run.seq ?_ | refine Run.skip ?_)); (try refine Run.ret ?_); first | exact Ends.flat hE (.inr rfl) rfl rfl (AVle.of_eq rfl) rfl | exact Ends.flat hE (.inl rfl) rfl rfl (AVle.of_eq rfl) rfl
  ·
    rw [if_neg hc] at h1
    have ht : backU N = 18446744073709551615 - N := by unfold backU; rw [if_neg hc]
    rw [ht, ← h2]
    refine FnC.of Tryd.func40 rfl rfl rfl rfl ?_
    repeat (first | refine Run.seq ?_ | refine Run.skip ?_ | refine Run.block ?_)
    refine Run.region ?_
    refine O.assign rfl rfl ?_
    refine O.nil ?_
    try refine Run.keep [0, 2, 5] rfl rfl ?_
    repeat (first | refine Run.seq ?_ | refine Run.skip ?_ | refine Run.block ?_)
    refine Run.region ?_
    refine O.move rfl rfl ?_
    refine O.bit rfl rfl h1 rfl ?_
    first | refine O.cmp rfl rfl rfl (by first | exact decide_eq_true (by omega) | exact decide_eq_false (by omega)) rfl ?_ | refine O.cmp rfl rfl rfl rfl rfl ?_
    refine O.nil ?_
    try refine Run.keep [0, 2, 5] rfl rfl ?_
    repeat (first | refine Run.seq ?_ | refine Run.skip ?_)
    first | refine Run.condT rfl rfl ?_ | refine Run.condF rfl rfl ?_ | refine Run.condT rfl (by assumption) ?_ | refine Run.condF rfl (by assumption) ?_
    repeat (first | refine Run.seq ?_ | refine Run.skip ?_ | refine Run.block ?_)
    refine Run.region ?_
    refine O.move rfl rfl ?_
    refine O.notB rfl rfl ?_
    refine O.assign rfl rfl ?_
    refine O.nil ?_
    try refine Run.keep [0, 2, 5] rfl rfl ?_
    (repeat (first | refine Run.seq ?_ | refine Run.skip ?_)); (try refine Run.ret ?_); first | exact Ends.flat hE (.inr rfl) rfl rfl (AVle.of_eq rfl) rfl | exact Ends.flat hE (.inl rfl) rfl rfl (AVle.of_eq rfl) rfl
theorem read_bool (hV : VStr g) {n : Int} (hn : n = 0 ∨ n = 1) : ReadOk g ⟨1, n, 0, ⟨#[]⟩⟩ := by
  intro b p B rest hb h
  have ho : oneP ⟨1, n, 0, ⟨#[]⟩⟩ = [2, n] := by
    show [2, IntKind.u8.wrap n] = [2, n]
    rcases hn with rfl | rfl <;> rfl
  rw [ho] at h ⊢
  have hE := EnLOk g lnD
  have c1 := next_fit (g := g) (i := 0) hb h rfl (by omega)
  have c2 := next_fit (g := g) (i := 1) hb h rfl (by omega)
  have c3 := (fnCheck hV (Good.bool n hn)).lent lnD
  dsimp only [vlA] at c3
  rw [Nat.add_zero] at c1
  show FnL _ _ _ _ (.tup [.agg [.pv (.int .i64 1), .pv (.int .i64 n), .pv (.int .u64 0), .pv (.str ⟨#[]⟩)], .pv (.int .i64 0)]) (bD b (p + 1 + 1) (flB B))
  have hcv : IntKind.i64.wrap n = n := wrap_i64 (by omega) (by omega)
  generalize flB B = fl at *
  refine FnL.of Tryd.func30 rfl rfl rfl rfl ?_
  repeat (first | refine Run.seq ?_ | refine Run.skip ?_ | refine Run.block ?_)
  refine Run.region ?_
  refine O.alloc hE 2 T60 rfl rfl rfl ?_
  refine O.assign rfl rfl ?_
  refine O.nil ?_
  try refine Run.keep [0, 2, 3, 4, 5, 6, 7, 8, 9, 10, 11, 12, 13, 20, 27, 29, 32, 40, 45, 48, 49, 56, 66, 74, 82, 89] rfl rfl ?_
  repeat (first | refine Run.seq ?_ | refine Run.skip ?_ | refine Run.block ?_)
  refine Run.region ?_
  refine O.move rfl rfl ?_
  refine O.lend (ln := lnD) c1 rfl rfl rfl (.inl rfl) (by repeat (first | exact BxIn.nil | refine BxIn.cons rfl ?_)) rfl rfl rfl rfl rfl rfl rfl rfl rfl rfl ?_
  refine O.move rfl rfl ?_
  refine O.extract rfl rfl rfl ?_
  refine O.extract rfl rfl rfl ?_
  refine O.assign rfl rfl ?_
  refine O.assign rfl rfl ?_
  refine O.nil ?_
  try refine Run.keep [0, 2, 3, 4, 5, 6, 7, 8, 9, 10, 11, 12, 13, 20, 27, 29, 32, 40, 45, 48, 49, 56, 66, 74, 82, 89] rfl rfl ?_
  repeat (first | refine Run.seq ?_ | refine Run.skip ?_ | refine Run.block ?_)
  refine Run.region ?_
  refine O.move rfl rfl ?_
  refine O.un rfl rfl rfl rfl rfl ?_
  refine O.nil ?_
  try refine Run.keep [0, 2, 3, 4, 5, 6, 7, 8, 9, 10, 11, 12, 13, 20, 27, 29, 32, 40, 45, 48, 49, 56, 66, 74, 82, 89] rfl rfl ?_
  repeat (first | refine Run.seq ?_ | refine Run.skip ?_)
  first | refine Run.condT rfl rfl ?_ | refine Run.condF rfl rfl ?_ | refine Run.condT rfl (by assumption) ?_ | refine Run.condF rfl (by assumption) ?_
  repeat (first | refine Run.seq ?_ | refine Run.skip ?_ | refine Run.block ?_)
  refine Run.region ?_
  refine O.move rfl rfl ?_
  refine O.conv hE T5 T3 rfl rfl rfl ?_
  first | refine O.ar rfl rfl rfl (by exact wrap_i64 (by omega) (by omega)) rfl ?_ | refine O.ar rfl rfl rfl rfl rfl ?_
  refine O.build hE T60 L60 rfl rfl rfl ?_
  refine O.alloc hE 6 T60 rfl rfl rfl ?_
  refine O.store hE T60 rfl rfl rfl rfl rfl rfl ?_
  refine O.nil ?_
  try refine Run.keep [0, 2, 3, 4, 5, 6, 7, 8, 9, 10, 11, 12, 13, 20, 27, 29, 32, 40, 45, 48, 49, 56, 66, 74, 82, 89] rfl rfl ?_
  repeat (first | refine Run.seq ?_ | refine Run.skip ?_ | refine Run.block ?_)
  refine Run.region ?_
  refine O.field hE L60 rfl rfl rfl rfl ?_
  first | refine O.loadS hE T3 rfl rfl rfl (by rfl) rfl ?_ | refine O.loadE hE T3 rfl rfl (by rfl) rfl ?_ | refine O.load hE T3 rfl rfl rfl rfl ?_
  refine O.nil ?_
  try refine Run.keep [0, 2, 3, 4, 5, 6, 7, 8, 9, 10, 11, 12, 13, 20, 27, 29, 32, 40, 45, 48, 49, 56, 66, 74, 82, 89] rfl rfl ?_
  repeat (first | refine Run.seq ?_ | refine Run.skip ?_ | refine Run.block ?_)
  refine Run.region ?_
  first | refine O.cmp rfl rfl rfl (by first | exact decide_eq_true (by omega) | exact decide_eq_false (by omega)) rfl ?_ | refine O.cmp rfl rfl rfl rfl rfl ?_
  refine O.assign rfl rfl ?_
  refine O.nil ?_
  try refine Run.keep [0, 2, 3, 4, 5, 6, 7, 8, 9, 10, 11, 12, 13, 20, 27, 29, 32, 40, 45, 48, 49, 56, 66, 74, 82, 89] rfl rfl ?_
  repeat (first | refine Run.seq ?_ | refine Run.skip ?_)
  first | refine Run.condT rfl rfl ?_ | refine Run.condF rfl rfl ?_ | refine Run.condT rfl (by assumption) ?_ | refine Run.condF rfl (by assumption) ?_
  repeat (first | refine Run.seq ?_ | refine Run.skip ?_ | refine Run.block ?_)
  refine Run.region ?_
  first | refine O.cmp rfl rfl rfl (by first | exact decide_eq_true (by omega) | exact decide_eq_false (by omega)) rfl ?_ | refine O.cmp rfl rfl rfl rfl rfl ?_
  refine O.assign rfl rfl ?_
  refine O.nil ?_
  try refine Run.keep [0, 2, 3, 4, 5, 6, 7, 8, 9, 10, 11, 12, 13, 20, 27, 29, 32, 40, 45, 48, 49, 56, 66, 74, 82, 89] rfl rfl ?_
  repeat (first | refine Run.seq ?_ | refine Run.skip ?_)
  first | refine Run.condT rfl rfl ?_ | refine Run.condF rfl rfl ?_ | refine Run.condT rfl (by assumption) ?_ | refine Run.condF rfl (by assumption) ?_
  repeat (first | refine Run.seq ?_ | refine Run.skip ?_ | refine Run.block ?_)
  refine Run.region ?_
  refine O.move rfl rfl ?_
  refine O.lend (ln := lnD) c2 rfl rfl rfl (.inl rfl) (by repeat (first | exact BxIn.nil | refine BxIn.cons rfl ?_)) rfl rfl rfl rfl rfl rfl rfl rfl rfl rfl ?_
  refine O.move rfl rfl ?_
  refine O.extract rfl rfl rfl ?_
  refine O.extract rfl rfl rfl ?_
  refine O.assign rfl rfl ?_
  refine O.assign rfl rfl ?_
  refine O.nil ?_
  try refine Run.keep [0, 2, 3, 4, 5, 6, 7, 8, 9, 10, 11, 12, 13, 20, 27, 29, 32, 40, 45, 48, 49, 56, 66, 74, 82, 89] rfl rfl ?_
  repeat (first | refine Run.seq ?_ | refine Run.skip ?_ | refine Run.block ?_)
  refine Run.region ?_
  refine O.move rfl rfl ?_
  refine O.un rfl rfl rfl rfl rfl ?_
  refine O.nil ?_
  try refine Run.keep [0, 2, 3, 4, 5, 6, 7, 8, 9, 10, 11, 12, 13, 20, 27, 29, 32, 40, 45, 48, 49, 56, 66, 74, 82, 89] rfl rfl ?_
  repeat (first | refine Run.seq ?_ | refine Run.skip ?_)
  first | refine Run.condT rfl rfl ?_ | refine Run.condF rfl rfl ?_ | refine Run.condT rfl (by assumption) ?_ | refine Run.condF rfl (by assumption) ?_
  repeat (first | refine Run.seq ?_ | refine Run.skip ?_ | refine Run.block ?_)
  refine Run.region ?_
  refine O.move rfl rfl ?_
  refine O.conv hE T5 T3 rfl rfl rfl ?_; rw [hcv]
  refine O.field hE L60 rfl rfl rfl rfl ?_
  refine O.store hE T3 rfl rfl rfl rfl rfl rfl ?_
  refine O.nil ?_
  try refine Run.keep [0, 2, 3, 4, 5, 6, 7, 8, 9, 10, 11, 12, 13, 20, 27, 29, 32, 40, 45, 48, 49, 56, 66, 74, 82, 89] rfl rfl ?_
  repeat (first | refine Run.seq ?_ | refine Run.skip ?_ | refine Run.block ?_)
  refine Run.region ?_
  refine O.load hE T60 rfl rfl rfl rfl ?_
  refine O.callE c3 rfl (by first | rfl | simp [closed, men3, mens2_app, mens2_ints, mens2, men2, men1, mens1_app, mens1_ints, mens1]) (by first | rfl | simp [d2, ds1_ints, ds1_app, ds1, d1, ds0_app, ds0_ints, ds0, d0]) rfl ?_
  first | refine O.cmp rfl rfl rfl (by first | exact decide_eq_true (by omega) | exact decide_eq_false (by omega)) rfl ?_ | refine O.cmp rfl rfl rfl rfl rfl ?_
  refine O.nil ?_
  try refine Run.keep [0, 2, 3, 4, 5, 6, 7, 8, 9, 10, 11, 12, 13, 20, 27, 29, 32, 40, 45, 48, 49, 56, 66, 74, 82, 89] rfl rfl ?_
  repeat (first | refine Run.seq ?_ | refine Run.skip ?_)
  first | refine Run.condT rfl rfl ?_ | refine Run.condF rfl rfl ?_ | refine Run.condT rfl (by assumption) ?_ | refine Run.condF rfl (by assumption) ?_
  repeat (first | refine Run.seq ?_ | refine Run.skip ?_ | refine Run.block ?_)
  refine Run.region ?_
  refine O.load hE T60 rfl rfl rfl rfl ?_
  refine O.store hE T60 rfl rfl rfl rfl rfl rfl ?_
  refine O.assign rfl rfl ?_
  refine O.nil ?_
  try refine Run.keep [0, 2, 3, 4, 5, 6, 7, 8, 9, 10, 11, 12, 13, 20, 27, 29, 32, 40, 45, 48, 49, 56, 66, 74, 82, 89] rfl rfl ?_
  refine Run.ret ?_
  repeat (first | refine thenR_ret ?_ | refine roundR_ret ?_ | refine blockR_ret ?_)
  exact Ends.of hE (.inr rfl) rfl rfl (SLe.drop (by repeat (first | exact TmIn.nil | refine TmIn.cons rfl ?_)) (by repeat (first | exact BxIn.nil | refine BxIn.cons rfl ?_)) rfl rfl)
end Go.Proofs.YtalcpfpjkfpmbaaDoor.Vm
