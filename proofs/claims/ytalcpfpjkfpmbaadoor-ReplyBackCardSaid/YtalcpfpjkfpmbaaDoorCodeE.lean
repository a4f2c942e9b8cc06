/- A row as bytes: a value's bytes, a row's bytes. Conditions: what utf8.ValidString answers. -/
import Derived.Test.YtalcpfpjkfpmbaaDoorCodeW
namespace Go.Proofs.YtalcpfpjkfpmbaaDoor.Vm
open Go Go.RowKit Go.Lib
set_option linter.unusedVariables false
set_option linter.unusedSimpArgs false
attribute [local irreducible] Ops Dr Run
theorem top_and (N : Nat) (h : N < 18446744073709551616) : N &&& 9223372036854775808 = if 9223372036854775808 ≤ N then 9223372036854775808 else 0 := by
  have e : (9223372036854775808 : Nat) = 2 ^ 63 := by decide +kernel
  have d := Nat.and_div_two_pow (a := N) (b := 9223372036854775808) (n := 63)
  have m := Nat.and_mod_two_pow (a := N) (b := 9223372036854775808) (n := 63)
  rw [← e] at d m
  rw [show 9223372036854775808 / 9223372036854775808 = 1 by decide, show 9223372036854775808 % 9223372036854775808 = 0 by decide] at *
  rw [Nat.and_zero] at m
  have hq : N / 9223372036854775808 = 0 ∨ N / 9223372036854775808 = 1 := by omega
  rcases hq with hq | hq
  · rw [hq, show (0 &&& 1 : Nat) = 0 by decide] at d
    rw [if_neg (by omega)]; omega
  · rw [hq, show (1 &&& 1 : Nat) = 1 by decide] at d
    rw [if_pos (by omega)]; omega
theorem top_or (N : Nat) (h : N < 9223372036854775808) : N ||| 9223372036854775808 = N + 9223372036854775808 := by
  have e : (9223372036854775808 : Nat) = 2 ^ 63 := by decide +kernel
  have d := Nat.or_div_two_pow (a := N) (b := 9223372036854775808) (n := 63)
  have m := Nat.or_mod_two_pow (a := N) (b := 9223372036854775808) (n := 63)
  rw [← e] at d m
  rw [show 9223372036854775808 / 9223372036854775808 = 1 by decide, show N / 9223372036854775808 = 0 by omega, show (0 ||| 1 : Nat) = 1 by decide] at d
  rw [show 9223372036854775808 % 9223372036854775808 = 0 by decide, Nat.or_zero] at m
  omega
theorem top_xor (N : Nat) (h : N < 18446744073709551616) : N ^^^ 9223372036854775808 = if 9223372036854775808 ≤ N then N - 9223372036854775808 else N + 9223372036854775808 := by
  have e : (9223372036854775808 : Nat) = 2 ^ 63 := by decide +kernel
  have d := Nat.xor_div_two_pow (a := N) (b := 9223372036854775808) (n := 63)
  have m := Nat.xor_mod_two_pow (a := N) (b := 9223372036854775808) (n := 63)
  rw [← e] at d m
  rw [show 9223372036854775808 / 9223372036854775808 = 1 by decide] at d
  rw [show 9223372036854775808 % 9223372036854775808 = 0 by decide, Nat.xor_zero] at m
  have hq : N / 9223372036854775808 = 0 ∨ N / 9223372036854775808 = 1 := by omega
  rcases hq with hq | hq
  · rw [hq, show (0 ^^^ 1 : Nat) = 1 by decide] at d
    rw [if_neg (by omega)]; omega
  · rw [hq, show (1 ^^^ 1 : Nat) = 0 by decide] at d
    rw [if_pos (by omega)]; omega
theorem not64 (N : Nat) (h : N < 18446744073709551616) : notI .u64 (N : Int) = ((18446744073709551615 - N : Nat) : Int) := by
  have h1 : notI .u64 (N : Int) = IntKind.u64.wrap ((BitVec.ofInt 64 18446744073709551615 ^^^ BitVec.ofInt 64 (N : Int)).toNat : Int) := rfl
  have h2 : BitVec.ofInt 64 18446744073709551615 = BitVec.allOnes 64 := by decide
  rw [h1, h2, BitVec.allOnes_xor, BitVec.toNat_not, ofInt_u64 N h, IntKind.wrap_u64]
  omega
theorem wrap8' (z : Int) : IntKind.u8.wrap z = z % 256 := by
  rw [show IntKind.u8.wrap z = z % 256 from rfl]
abbrev byv (q : List Int) : PV := .lst 1 (q.map (PV.int .u8))
/-- Eight bytes of a word, the greatest first. -/
def eightU (N : Nat) : List Int := (List.range 8).map fun i => ((N / 2 ^ (56 - 8 * i) % 256 : Nat) : Int)
/-- The bits of a real so that greater reals have greater bits. -/
def turnU (N : Nat) : Nat := if 9223372036854775808 ≤ N then 18446744073709551615 - N else N + 9223372036854775808
/-- The bytes of a text. -/
def txB (s : ByteArray) : List Int := s.data.toList.map fun c => ((c.toNat : Nat) : Int)
def esc : List Int → List Int
  | [] => []
  | c :: cs => if c = 0 then 0 :: 255 :: esc cs else c :: esc cs
theorem esc_len : ∀ l : List Int, (esc l).length ≤ 2 * l.length
  | [] => by simp [esc]
  | c :: cs => by have := esc_len cs; unfold esc; split <;> simp <;> omega
theorem esc_snoc : ∀ (l : List Int) (c : Int), esc (l ++ [c]) = esc l ++ (if c = 0 then [0, 255] else [c])
  | [], c => by simp only [List.nil_append, esc]
  | d :: ds, c => by
    simp only [List.cons_append, esc]
    rw [esc_snoc ds c]
    split <;> rfl
/-- The bytes of a value. -/
def oneP (v : Vl) : List Int :=
  if v.kd = 1 then [2, IntKind.u8.wrap v.n] else if v.kd = 2 then 3 :: eightU (v.n + 9223372036854775808).toNat else if v.kd = 3 then 4 :: eightU (turnU v.b.toNat) else if v.kd = 4 then 5 :: (esc (txB v.s) ++ [0, 1]) else [1]
theorem eightU_len (N : Nat) : (eightU N).length = 8 := by simp [eightU]
theorem one_len {v : Vl} (h : Good v) : (oneP v).length ≤ 83 := by
  cases h with
  | null => decide
  | bool n hn => simp [oneP]
  | int n hn => simp [oneP, eightU_len]
  | real n hn => simp [oneP, eightU_len]
  | text s hs hv =>
    have h1 := esc_len (txB s)
    have h2 : (txB s).length = s.size := by simp [txB]
    simp [oneP]
    omega
variable {g : Nat → Option (List PV)}
theorem fnEightU (N : Nat) (hN : N < 18446744073709551616) : FnC (En Tryd.prog g) 38 [.pv (.int .u64 (N : Int))] (.pv (byv (eightU N))) [] := by
  have hE := EnOk g
  unfold eightU
  obtain ⟨F, hF⟩ : ∃ F : Nat → Int, ∀ i, F i = ((N / 2 ^ (56 - 8 * i) % 256 : Nat) : Int) := ⟨_, fun _ => rfl⟩
  rw [show (fun i => ((N / 2 ^ (56 - 8 * i) % 256 : Nat) : Int)) = F from funext fun i => (hF i).symm]
  refine FnC.of Tryd.func38 rfl rfl rfl rfl ?_
  repeat (first | refine Run.seq ?_ | refine Run.skip ?_ | refine Run.block ?_)
  refine Run.region ?_
  refine O.assign rfl rfl ?_
  refine O.nil ?_
  try refine Run.keep [0, 2, 3, 4, 6] rfl rfl ?_
  repeat (first | refine Run.seq ?_ | refine Run.skip ?_ | refine Run.block ?_)
  refine Run.region ?_
  refine O.assign rfl rfl ?_
  refine O.nil ?_
  try refine Run.keep [0, 2, 3, 4, 6] rfl rfl ?_
  refine Run.pre (SLe.nilBox (t := 3) (b := 53) (e := 5) (sz := 1) rfl rfl rfl rfl) ?_
  repeat (first | refine Run.seq ?_ | refine Run.skip ?_ | refine Run.block ?_)
  refine Run.region ?_
  refine O.assign rfl rfl ?_
  refine O.nil ?_
  try refine Run.keep [0, 2, 3, 4, 6] rfl rfl ?_
  repeat (first | refine Run.seq ?_ | refine Run.skip ?_)
  refine Run.block ?_
  refine Run.loopInv (ι := Nat) (fun j => j ≤ 8) (fun j => ⟨17, [(0, .pv (.int .u64 (N : Int))), (3, .gl 53 ((List.range j).map F).length), (4, .pv (.int .i64 (56 - 8 * (j : Int))))], [(53, .lst 5 1 (((List.range j).map F).map (PV.int .u8)))]⟩) (fun j => 8 - j) 0 (by omega) ?_ ?_
  ·
    refine SLe.eqv (by repeat (first | exact TmIn.nil | refine TmIn.cons rfl ?_)) (by repeat (first | exact BxIn.nil | refine BxIn.cons rfl ?_)) rfl
  rintro j hj ih
  by_cases hlt : j < 8
  ·
    have htk : (List.range (j + 1)).map F = (List.range j).map F ++ [F j] := by rw [List.range_succ, List.map_append]; rfl
    have hb : IntKind.u8.wrap ((N : Int).fdiv (2 ^ (min (56 - 8 * (j : Int)).toNat IntKind.u64.bits))) = F j := by
      have e1 : min (56 - 8 * (j : Int)).toNat IntKind.u64.bits = 56 - 8 * j := by show min _ 64 = _; omega
      rw [e1, Int.fdiv_eq_ediv_of_nonneg _ (Int.le_of_lt (Int.pow_pos (by decide))), wrap8', hF]
      simp
    have e4 : (56 - 8 * ((j + 1 : Nat) : Int)) = 56 - 8 * (j : Int) - 8 := by omega
    repeat (first | refine Run.seq ?_ | refine Run.skip ?_ | refine Run.block ?_)
    refine Run.region ?_
    refine O.move rfl rfl ?_
    first | refine O.cmp rfl rfl rfl (by first | exact decide_eq_true (by omega) | exact decide_eq_false (by omega)) rfl ?_ | refine O.cmp rfl rfl rfl rfl rfl ?_
    refine O.nil ?_
    try refine Run.keep [0, 2, 3, 4, 6] rfl rfl ?_
    repeat (first | refine Run.seq ?_ | refine Run.skip ?_)
    first | refine Run.condT rfl rfl ?_ | refine Run.condF rfl rfl ?_ | refine Run.condT rfl (by assumption) ?_ | refine Run.condF rfl (by assumption) ?_
    repeat (first | refine Run.seq ?_ | refine Run.skip ?_ | refine Run.block ?_)
    refine Run.region ?_
    refine O.move rfl rfl ?_
    refine O.move rfl rfl ?_
    refine O.move rfl rfl ?_
    refine O.shr rfl rfl (by first | omega | (exact wrap_nn rfl _)) rfl ?_
    refine O.conv hE T58 T5 rfl rfl rfl ?_; rw [hb]
    refine O.litV hE T27 rfl T5 rfl rfl rfl rfl rfl rfl rfl ?_
    refine O.appV (PV.int .u8) (q := (List.range j).map F) (r := [F j]) hE T27 rfl T5 rfl rfl rfl rfl rfl newest_pv rfl rfl rfl rfl (by simp; omega) (by simp [maxLen]; omega) rfl ?_
    refine O.assign rfl rfl ?_
    refine O.nil ?_
    try refine Run.keep [0, 2, 3, 4, 6] rfl rfl ?_
    repeat (first | refine Run.seq ?_ | refine Run.skip ?_ | refine Run.block ?_)
    refine Run.region ?_
    refine O.move rfl rfl ?_
    first | refine O.ar rfl rfl rfl (by exact wrap_i64 (by omega) (by omega)) rfl ?_ | refine O.ar rfl rfl rfl rfl rfl ?_
    refine O.assign rfl rfl ?_
    refine O.nil ?_
    try refine Run.keep [0, 2, 3, 4, 6] rfl rfl ?_
    refine ih (j + 1) _ ?_ (by omega) (by omega)
    rw [htk, e4]
    exact SLe.drop (by repeat (first | exact TmIn.nil | refine TmIn.cons rfl ?_)) (by repeat (first | exact BxIn.nil | refine BxIn.cons rfl ?_)) rfl rfl
  obtain rfl : j = 8 := by omega
  repeat (first | refine Run.seq ?_ | refine Run.skip ?_ | refine Run.block ?_)
  refine Run.region ?_
  refine O.move rfl rfl ?_
  first | refine O.cmp rfl rfl rfl (by first | exact decide_eq_true (by omega) | exact decide_eq_false (by omega)) rfl ?_ | refine O.cmp rfl rfl rfl rfl rfl ?_
  refine O.nil ?_
  try refine Run.keep [0, 2, 3, 4, 6] rfl rfl ?_
  repeat (first | refine Run.seq ?_ | refine Run.skip ?_)
  first | refine Run.condT rfl rfl ?_ | refine Run.condF rfl rfl ?_ | refine Run.condT rfl (by assumption) ?_ | refine Run.condF rfl (by assumption) ?_
  refine Run.exit ?_
  repeat (first | refine thenR_exit ?_ | refine roundR_exit ?_ | refine blockR_exit ?_ | refine blockR_pass rfl ?_)
  repeat (first | refine Run.seq ?_ | refine Run.skip ?_ | refine Run.block ?_)
  refine Run.region ?_
  refine O.move rfl rfl ?_
  refine O.assign rfl rfl ?_
  refine O.nil ?_
  try refine Run.keep [0, 2, 3, 4, 6] rfl rfl ?_
  refine Run.ret ?_
  exact Ends.of hE (.inr rfl) rfl rfl (SLe.res0 (AVle.lst _ _ _ (lstOf_glV rfl (by simp))) rfl)
theorem fnTurned (N : Nat) (hN : N < 18446744073709551616) : FnC (En Tryd.prog g) 39 [.pv (.int .u64 (N : Int))] (.pv (.int .u64 (turnU N : Int))) [] := by
  have hE := EnOk g
  have h1 : bitI .and .u64 (N : Int) 9223372036854775808 = some ((if 9223372036854775808 ≤ N then 9223372036854775808 else 0 : Nat) : Int) := by
    have := u64_and_nat N 9223372036854775808 hN (by decide)
    rw [top_and N hN] at this
    exact congrArg some this
  have h2 := not64 N hN
  by_cases hc : 9223372036854775808 ≤ N
  ·
    rw [if_pos hc] at h1
    have ht : turnU N = 18446744073709551615 - N := by unfold turnU; rw [if_pos hc]
    rw [ht, ← h2]
    refine FnC.of Tryd.func39 rfl rfl rfl rfl ?_
    repeat (first | refine Run.seq ?_ | refine Run.skip ?_ | refine Run.block ?_)
    refine Run.region ?_
    refine O.assign rfl rfl ?_
    refine O.nil ?_
    try refine Run.keep [0, 2, 5] rfl rfl ?_
    repeat (first | refine Run.seq ?_ | refine Run.skip ?_ | refine Run.block ?_)
    refine Run.region ?_
    refine O.move rfl rfl ?_
    refine O.bit rfl rfl h1 rfl ?_
    first | refine O.cmp rfl rfl rfl (by first | exact decide_eq_true (by omega) | exact decide_eq_false (by omega)) rfl ?_ | refine O.cmp rfl rfl rfl rfl rfl ?_
    refine O.nil ?_
    try refine Run.keep [0, 2, 5] rfl rfl ?_
    repeat (first | refine Run.seq ?_ | refine Run.skip ?_)
    first | refine Run.condT rfl rfl ?_ | refine Run.condF rfl rfl ?_ | refine Run.condT rfl (by assumption) ?_ | refine Run.condF rfl (by assumption) ?_
    repeat (first | refine Run.seq ?_ | refine Run.skip ?_ | refine Run.block ?_)
    refine Run.region ?_
    refine O.move rfl rfl ?_
    refine O.notB rfl rfl ?_
    refine O.assign rfl rfl ?_
    refine O.nil ?_
    try refine Run.keep [0, 2, 5] rfl rfl ?_
    (repeat (first | refine Run.seq ?_ | refine Run.skip ?_)); (try refine Run.ret ?_); first | exact Ends.flat hE (.inr rfl) rfl rfl (AVle.of_eq rfl) rfl | exact Ends.flat hE (.inl rfl) rfl rfl (AVle.of_eq rfl) rfl
  ·
    rw [if_neg hc] at h1
    have ht : turnU N = N + 9223372036854775808 := by unfold turnU; rw [if_neg hc]
    have h3 : bitI .or .u64 (N : Int) 9223372036854775808 = some ((turnU N : Nat) : Int) := by
      have := u64_or_nat N 9223372036854775808 hN (by decide)
      rw [top_or N (by omega), ← ht] at this
      exact congrArg some this
    refine FnC.of Tryd.func39 rfl rfl rfl rfl ?_
    repeat (first | refine Run.seq ?_ | refine Run.skip ?_ | refine Run.block ?_)
    refine Run.region ?_
    refine O.assign rfl rfl ?_
    refine O.nil ?_
    try refine Run.keep [0, 2, 5] rfl rfl ?_
    repeat (first | refine Run.seq ?_ | refine Run.skip ?_ | refine Run.block ?_)
    refine Run.region ?_
    refine O.move rfl rfl ?_
    refine O.bit rfl rfl h1 rfl ?_
    first | refine O.cmp rfl rfl rfl (by first | exact decide_eq_true (by omega) | exact decide_eq_false (by omega)) rfl ?_ | refine O.cmp rfl rfl rfl rfl rfl ?_
    refine O.nil ?_
    try refine Run.keep [0, 2, 5] rfl rfl ?_
    repeat (first | refine Run.seq ?_ | refine Run.skip ?_)
    first | refine Run.condT rfl rfl ?_ | refine Run.condF rfl rfl ?_ | refine Run.condT rfl (by assumption) ?_ | refine Run.condF rfl (by assumption) ?_
    repeat (first | refine Run.seq ?_ | refine Run.skip ?_ | refine Run.block ?_)
    refine Run.region ?_
    refine O.move rfl rfl ?_
    refine O.bit rfl rfl h3 rfl ?_
    refine O.assign rfl rfl ?_
    refine O.nil ?_
    try refine Run.keep [0, 2, 5] rfl rfl ?_
    (repeat (first | refine Run.seq ?_ | refine Run.skip ?_)); (try refine Run.ret ?_); first | exact Ends.flat hE (.inr rfl) rfl rfl (AVle.of_eq rfl) rfl | exact Ends.flat hE (.inl rfl) rfl rfl (AVle.of_eq rfl) rfl
end Go.Proofs.YtalcpfpjkfpmbaaDoor.Vm
