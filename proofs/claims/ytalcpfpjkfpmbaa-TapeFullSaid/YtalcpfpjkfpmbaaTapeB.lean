/- Tapes: the sum of bytes, a record's frame. Conditions: none. -/
import Derived.Test.YtalcpfpjkfpmbaaTapeA
namespace Go.Proofs.Ytalcpfpjkfpmbaa.Vm
open Go Go.RowKit
set_option linter.unusedVariables false
set_option linter.unusedSimpArgs false
attribute [local irreducible] Ops Dr Run
def xo (a b : Int) : Int := IntKind.u32.wrap ↑(BitVec.ofInt IntKind.u32.bits a ^^^ BitVec.ofInt IntKind.u32.bits b).toNat
def lowB (c : Int) : Int := IntKind.u32.wrap ↑(BitVec.ofInt IntKind.u32.bits c &&& BitVec.ofInt IntKind.u32.bits 1).toNat
def hlf (c : Int) : Int := c.fdiv (2 ^ (min (Int.toNat 1) IntKind.u32.bits))
def crB (c : Int) : Int := if lowB c = 1 then xo (hlf c) 2197175160 else hlf c
def crB8 (c : Int) : Nat → Int
  | 0 => c
  | j + 1 => crB (crB8 c j)
def crP (b : List Int) : Nat → Int
  | 0 => 4294967295
  | j + 1 => crB8 (xo (crP b j) (b.getD j 0)) 8
/-- The sum of bytes. -/
def crcP (b : List Int) : Int := notI .u32 (crP b b.length)
theorem crc_lt (b : List Int) : 0 ≤ crcP b ∧ crcP b < 4294967296 := by
  unfold crcP notI
  generalize crP b b.length = X
  rw [IntKind.wrap_u32]
  omega
variable {g : Nat → Option (List PV)}
attribute [local irreducible] xo lowB hlf
theorem fnCrc {b : List Int} (hb : bOk b) (hl : (b.length : Int) ≤ 9223372036854775807) : FnC (En Try.prog g) 19 [.pv (.lst 1 (b.map (PV.int .u8)))] (.pv (.int .u32 (crcP b))) [] := by
  have hE := EnOk g
  have hlm : (((b.map (PV.int .u8)).length : Nat) : Int) = b.length := by simp
  refine FnC.of Try.func19 rfl rfl rfl rfl ?_
  repeat (first | refine Run.seq ?_ | refine Run.skip ?_ | refine Run.block ?_)
  refine Run.region ?_
  refine O.assign rfl rfl ?_
  refine O.nil ?_
  try refine Run.keep [0, 2, 3, 5, 6, 7, 8, 9, 16, 17, 20] rfl rfl ?_
  repeat (first | refine Run.seq ?_ | refine Run.skip ?_ | refine Run.block ?_)
  refine Run.region ?_
  refine O.assign rfl rfl ?_
  refine O.nil ?_
  try refine Run.keep [0, 2, 3, 5, 6, 7, 8, 9, 16, 17, 20] rfl rfl ?_
  repeat (first | refine Run.seq ?_ | refine Run.skip ?_ | refine Run.block ?_)
  refine Run.region ?_
  refine O.move rfl rfl ?_
  refine O.lenN hE T32 rfl rfl rfl newest_pv hlm rfl ?_
  refine O.move rfl rfl ?_
  refine O.nil ?_
  try refine Run.keep [0, 2, 3, 5, 6, 7, 8, 9, 16, 17, 20] rfl rfl ?_
  repeat (first | refine Run.seq ?_ | refine Run.skip ?_)
  refine Run.block ?_
  refine Run.loopInv (ι := Nat) (fun j => j ≤ b.length) (fun j => ⟨30, [(3, .pv (.int .u32 (crP b j))), (6, .pv (.lst 1 (b.map (PV.int .u8)))), (7, .pv (.int .i64 b.length)), (8, .pv (.int .i64 (j : Int)))], []⟩) (fun j => b.length - j) 0 (Nat.zero_le _) ?_ ?_
  ·
    exact SLe.drop (by repeat (first | exact TmIn.nil | refine TmIn.cons rfl ?_)) (by repeat (first | exact BxIn.nil | refine BxIn.cons rfl ?_)) rfl rfl
  rintro j hj ih
  by_cases hlt : j < b.length
  ·
    obtain ⟨c, hc⟩ : ∃ c, b[j]? = some c := ⟨_, List.getElem?_eq_getElem hlt⟩
    have hc8 := hb c (List.mem_of_getElem? hc)
    have hat : (b.map (PV.int .u8))[(j : Int).toNat]? = some (PV.int .u8 c) := by rw [Int.toNat_natCast, List.getElem?_map, hc]; rfl
    have hst : crP b (j + 1) = crB8 (xo (crP b j) c) 8 := by rw [crP, List.getD_eq_getElem?_getD, hc]; rfl
    generalize crP b j = X at *
    have hxo : bitI .xor .u32 X c = some (xo X c) := by unfold xo; rfl
    generalize xo X c = Y at *
    repeat (first | refine Run.seq ?_ | refine Run.skip ?_ | refine Run.block ?_)
    refine Run.region ?_
    first | refine O.cmp rfl rfl rfl (by first | exact decide_eq_true (by omega) | exact decide_eq_false (by omega)) rfl ?_ | refine O.cmp rfl rfl rfl rfl rfl ?_
    refine O.nil ?_
    try refine Run.keep [0, 2, 3, 5, 6, 7, 8, 9, 16, 17, 20] rfl rfl ?_
    repeat (first | refine Run.seq ?_ | refine Run.skip ?_)
    first | refine Run.condT rfl rfl ?_ | refine Run.condF rfl rfl ?_ | refine Run.condT rfl (by assumption) ?_ | refine Run.condF rfl (by assumption) ?_
    repeat (first | refine Run.seq ?_ | refine Run.skip ?_ | refine Run.block ?_)
    refine Run.region ?_
    refine O.index hE T32 rfl T5 rfl rfl (by first | exact newest_pv | exact newest_gl rfl rfl | trivial) rfl (by omega) (by first | assumption | rfl) rfl rfl rfl ?_
    first | refine O.loadS hE T5 rfl rfl rfl (by rfl) rfl ?_ | refine O.loadE hE T5 rfl rfl (by rfl) rfl ?_ | refine O.load hE T5 rfl rfl rfl rfl ?_
    refine O.assign rfl rfl ?_
    refine O.nil ?_
    try refine Run.keep [0, 2, 3, 5, 6, 7, 8, 9, 16, 17, 20] rfl rfl ?_
    repeat (first | refine Run.seq ?_ | refine Run.skip ?_ | refine Run.block ?_)
    refine Run.region ?_
    refine O.move rfl rfl ?_
    refine O.move rfl rfl ?_
    refine O.convQ (q := c) hE T5 T55 rfl rfl (by rw [IntKind.wrap_u32]; omega) rfl ?_
    refine O.bit rfl rfl hxo rfl ?_
    refine O.assign rfl rfl ?_
    refine O.nil ?_
    try refine Run.keep [0, 2, 3, 5, 6, 7, 8, 9, 16, 17, 20] rfl rfl ?_
    repeat (first | refine Run.seq ?_ | refine Run.skip ?_ | refine Run.block ?_)
    refine Run.region ?_
    refine O.move rfl rfl ?_
    refine O.nil ?_
    try refine Run.keep [0, 2, 3, 5, 6, 7, 8, 9, 16, 17, 20] rfl rfl ?_
    repeat (first | refine Run.seq ?_ | refine Run.skip ?_)
    refine Run.block ?_
    refine Run.loopInv (ι := Nat) (fun i => i ≤ 8) (fun i => ⟨30, [(3, .pv (.int .u32 (crB8 Y i))), (6, .pv (.lst 1 (b.map (PV.int .u8)))), (7, .pv (.int .i64 b.length)), (8, .pv (.int .i64 (j : Int))), (16, .pv (.int .i64 (i : Int)))], []⟩) (fun i => 8 - i) 0 (Nat.zero_le _) ?_ ?_
    ·
      exact SLe.drop (by repeat (first | exact TmIn.nil | refine TmIn.cons rfl ?_)) (by repeat (first | exact BxIn.nil | refine BxIn.cons rfl ?_)) rfl rfl
    rintro i hi ih2
    by_cases hlt2 : i < 8
    ·
      have hs2 : crB8 Y (i + 1) = crB (crB8 Y i) := rfl
      generalize crB8 Y i = Z at *
      have hz1 : bitI .and .u32 Z 1 = some (lowB Z) := by unfold lowB; rfl
      have hz2 : Z.fdiv (2 ^ (min (Int.toNat 1) IntKind.u32.bits)) = hlf Z := by unfold hlf; rfl
      have hz3 : bitI .xor .u32 (hlf Z) 2197175160 = some (xo (hlf Z) 2197175160) := by unfold xo; rfl
      by_cases hl1 : lowB Z = 1
      ·
        rw [crB, if_pos hl1] at hs2
        repeat (first | refine Run.seq ?_ | refine Run.skip ?_ | refine Run.block ?_)
        refine Run.region ?_
        first | refine O.cmp rfl rfl rfl (by first | exact decide_eq_true (by omega) | exact decide_eq_false (by omega)) rfl ?_ | refine O.cmp rfl rfl rfl rfl rfl ?_
        refine O.nil ?_
        try refine Run.keep [0, 2, 3, 5, 6, 7, 8, 9, 16, 17, 20] rfl rfl ?_
        repeat (first | refine Run.seq ?_ | refine Run.skip ?_)
        first | refine Run.condT rfl rfl ?_ | refine Run.condF rfl rfl ?_ | refine Run.condT rfl (by assumption) ?_ | refine Run.condF rfl (by assumption) ?_
        repeat (first | refine Run.seq ?_ | refine Run.skip ?_ | refine Run.block ?_)
        refine Run.region ?_
        refine O.move rfl rfl ?_
        refine O.bit rfl rfl hz1 rfl ?_
        refine O.cmp (c' := true) rfl rfl rfl (decide_eq_true hl1) rfl ?_
        refine O.nil ?_
        try refine Run.keep [0, 2, 3, 5, 6, 7, 8, 9, 16, 17, 20] rfl rfl ?_
        repeat (first | refine Run.seq ?_ | refine Run.skip ?_)
        first | refine Run.condT rfl rfl ?_ | refine Run.condF rfl rfl ?_ | refine Run.condT rfl (by assumption) ?_ | refine Run.condF rfl (by assumption) ?_
        repeat (first | refine Run.seq ?_ | refine Run.skip ?_ | refine Run.block ?_)
        refine Run.region ?_
        refine O.move rfl rfl ?_
        refine O.shrQ rfl rfl (by omega) hz2 rfl ?_
        refine O.bit rfl rfl hz3 rfl ?_
        refine O.assign rfl rfl ?_
        refine O.nil ?_
        try refine Run.keep [0, 2, 3, 5, 6, 7, 8, 9, 16, 17, 20] rfl rfl ?_
        repeat (first | refine Run.seq ?_ | refine Run.skip ?_ | refine Run.block ?_)
        refine Run.region ?_
        first | refine O.ar rfl rfl rfl (by exact wrap_i64 (by omega) (by omega)) rfl ?_ | refine O.ar rfl rfl rfl rfl rfl ?_
        refine O.move rfl rfl ?_
        refine O.nil ?_
        try refine Run.keep [0, 2, 3, 5, 6, 7, 8, 9, 16, 17, 20] rfl rfl ?_
        refine ih2 (i + 1) _ ?_ (by omega) (by omega)
        rw [hs2]
        exact SLe.drop (by repeat (first | exact TmIn.nil | refine TmIn.cons rfl ?_)) (by repeat (first | exact BxIn.nil | refine BxIn.cons rfl ?_)) rfl rfl
      ·
        rw [crB, if_neg hl1] at hs2
        repeat (first | refine Run.seq ?_ | refine Run.skip ?_ | refine Run.block ?_)
        refine Run.region ?_
        first | refine O.cmp rfl rfl rfl (by first | exact decide_eq_true (by omega) | exact decide_eq_false (by omega)) rfl ?_ | refine O.cmp rfl rfl rfl rfl rfl ?_
        refine O.nil ?_
        try refine Run.keep [0, 2, 3, 5, 6, 7, 8, 9, 16, 17, 20] rfl rfl ?_
        repeat (first | refine Run.seq ?_ | refine Run.skip ?_)
        first | refine Run.condT rfl rfl ?_ | refine Run.condF rfl rfl ?_ | refine Run.condT rfl (by assumption) ?_ | refine Run.condF rfl (by assumption) ?_
        repeat (first | refine Run.seq ?_ | refine Run.skip ?_ | refine Run.block ?_)
        refine Run.region ?_
        refine O.move rfl rfl ?_
        refine O.bit rfl rfl hz1 rfl ?_
        refine O.cmp (c' := false) rfl rfl rfl (decide_eq_false hl1) rfl ?_
        refine O.nil ?_
        try refine Run.keep [0, 2, 3, 5, 6, 7, 8, 9, 16, 17, 20] rfl rfl ?_
        repeat (first | refine Run.seq ?_ | refine Run.skip ?_)
        first | refine Run.condT rfl rfl ?_ | refine Run.condF rfl rfl ?_ | refine Run.condT rfl (by assumption) ?_ | refine Run.condF rfl (by assumption) ?_
        repeat (first | refine Run.seq ?_ | refine Run.skip ?_ | refine Run.block ?_)
        refine Run.region ?_
        refine O.move rfl rfl ?_
        refine O.shrQ rfl rfl (by omega) hz2 rfl ?_
        refine O.assign rfl rfl ?_
        refine O.nil ?_
        try refine Run.keep [0, 2, 3, 5, 6, 7, 8, 9, 16, 17, 20] rfl rfl ?_
        repeat (first | refine Run.seq ?_ | refine Run.skip ?_ | refine Run.block ?_)
        refine Run.region ?_
        first | refine O.ar rfl rfl rfl (by exact wrap_i64 (by omega) (by omega)) rfl ?_ | refine O.ar rfl rfl rfl rfl rfl ?_
        refine O.move rfl rfl ?_
        refine O.nil ?_
        try refine Run.keep [0, 2, 3, 5, 6, 7, 8, 9, 16, 17, 20] rfl rfl ?_
        refine ih2 (i + 1) _ ?_ (by omega) (by omega)
        rw [hs2]
        exact SLe.drop (by repeat (first | exact TmIn.nil | refine TmIn.cons rfl ?_)) (by repeat (first | exact BxIn.nil | refine BxIn.cons rfl ?_)) rfl rfl
    obtain rfl : i = 8 := by omega
    repeat (first | refine Run.seq ?_ | refine Run.skip ?_ | refine Run.block ?_)
    refine Run.region ?_
    first | refine O.cmp rfl rfl rfl (by first | exact decide_eq_true (by omega) | exact decide_eq_false (by omega)) rfl ?_ | refine O.cmp rfl rfl rfl rfl rfl ?_
    refine O.nil ?_
    try refine Run.keep [0, 2, 3, 5, 6, 7, 8, 9, 16, 17, 20] rfl rfl ?_
    repeat (first | refine Run.seq ?_ | refine Run.skip ?_)
    first | refine Run.condT rfl rfl ?_ | refine Run.condF rfl rfl ?_ | refine Run.condT rfl (by assumption) ?_ | refine Run.condF rfl (by assumption) ?_
    refine Run.exit ?_
    repeat (first | refine thenR_exit ?_ | refine roundR_exit ?_ | refine blockR_exit ?_ | refine blockR_pass rfl ?_)
    repeat (first | refine Run.seq ?_ | refine Run.skip ?_ | refine Run.block ?_)
    refine Run.region ?_
    first | refine O.ar rfl rfl rfl (by exact wrap_i64 (by omega) (by omega)) rfl ?_ | refine O.ar rfl rfl rfl rfl rfl ?_
    refine O.move rfl rfl ?_
    refine O.nil ?_
    try refine Run.keep [0, 2, 3, 5, 6, 7, 8, 9, 16, 17, 20] rfl rfl ?_
    refine ih (j + 1) _ ?_ (by omega) (by omega)
    rw [hst]
    exact SLe.drop (by repeat (first | exact TmIn.nil | refine TmIn.cons rfl ?_)) (by repeat (first | exact BxIn.nil | refine BxIn.cons rfl ?_)) rfl rfl
  obtain rfl : j = b.length := by omega
  repeat (first | refine Run.seq ?_ | refine Run.skip ?_ | refine Run.block ?_)
  refine Run.region ?_
  first | refine O.cmp rfl rfl rfl (by first | exact decide_eq_true (by omega) | exact decide_eq_false (by omega)) rfl ?_ | refine O.cmp rfl rfl rfl rfl rfl ?_
  refine O.nil ?_
  try refine Run.keep [0, 2, 3, 5, 6, 7, 8, 9, 16, 17, 20] rfl rfl ?_
  repeat (first | refine Run.seq ?_ | refine Run.skip ?_)
  first | refine Run.condT rfl rfl ?_ | refine Run.condF rfl rfl ?_ | refine Run.condT rfl (by assumption) ?_ | refine Run.condF rfl (by assumption) ?_
  refine Run.exit ?_
  repeat (first | refine thenR_exit ?_ | refine roundR_exit ?_ | refine blockR_exit ?_ | refine blockR_pass rfl ?_)
  repeat (first | refine Run.seq ?_ | refine Run.skip ?_ | refine Run.block ?_)
  refine Run.region ?_
  refine O.move rfl rfl ?_
  refine O.notB rfl rfl ?_
  refine O.assign rfl rfl ?_
  refine O.nil ?_
  try refine Run.keep [0, 2, 3, 5, 6, 7, 8, 9, 16, 17, 20] rfl rfl ?_
  (repeat (first | refine Run.seq ?_ | refine Run.skip ?_)); (try refine Run.ret ?_); first | exact Ends.flat hE (.inr rfl) rfl rfl (AVle.of_eq rfl) rfl | exact Ends.flat hE (.inl rfl) rfl rfl (AVle.of_eq rfl) rfl
/-- What stands ahead of a record. -/
def hdr (r : List Int) : List Int := [(r.length : Int) / 256 % 256, (r.length : Int) % 256, crcP r / 16777216 % 256, crcP r / 65536 % 256, crcP r / 256 % 256, crcP r % 256]
theorem fdq {m : Int} {j : Int} {k : IntKind} {p : Int} (hp : (2 : Int) ^ (min j.toNat k.bits) = p) (h0 : 0 < p) : m.fdiv (2 ^ (min j.toNat k.bits)) = m / p := by
  rw [hp, Int.fdiv_eq_ediv_of_nonneg _ (by omega)]
theorem w8 {m : Int} : IntKind.u8.wrap m = m % 256 := by rw [IntKind.wrap_u8]
theorem fnFramed {b : List Int} (hb : bOk b) (hl : (b.length : Int) ≤ 100000) : FnC (En Try.prog g) 14 [.pv (.lst 1 (b.map (PV.int .u8)))] (.gl 24 (hdr b ++ b).length) [(24, .lst 5 1 ((hdr b ++ b).map (PV.int .u8)))] := by
  have hE := EnOk g
  have hlm : (((b.map (PV.int .u8)).length : Nat) : Int) = b.length := by simp
  have c1 := fnCrc (g := g) hb (by omega)
  refine FnC.of Try.func14 rfl rfl rfl rfl ?_
  repeat (first | refine Run.seq ?_ | refine Run.skip ?_ | refine Run.block ?_)
  refine Run.region ?_
  refine O.assign rfl rfl ?_
  refine O.nil ?_
  try refine Run.keep [0, 2, 3] rfl rfl ?_
  repeat (first | refine Run.seq ?_ | refine Run.skip ?_ | refine Run.block ?_)
  refine Run.region ?_
  refine O.move rfl rfl ?_
  refine O.callE c1 rfl (by first | rfl | simp [closed, men3, mens2_app, mens2_ints, mens2, men2, men1, mens1_app, mens1_ints, mens1]) (by first | rfl | simp [d2, ds1_ints, ds1_app, ds1, d1, ds0_app, ds0_ints, ds0, d0]) rfl ?_
  refine O.assign rfl rfl ?_
  refine O.nil ?_
  try refine Run.keep [0, 2, 3] rfl rfl ?_
  have hh : hdr b = [(b.length : Int) / 256 % 256, (b.length : Int) % 256, crcP b / 16777216 % 256, crcP b / 65536 % 256, crcP b / 256 % 256, crcP b % 256] := rfl
  have hlh : (hdr b).length = 6 := rfl
  generalize crcP b = C at *
  generalize hdr b = H at *
  subst hh
  repeat (first | refine Run.seq ?_ | refine Run.skip ?_ | refine Run.block ?_)
  refine Run.region ?_
  refine O.move rfl rfl ?_
  refine O.lenN hE T32 rfl rfl rfl newest_pv hlm rfl ?_
  refine O.shrQ rfl rfl (by omega) (fdq (p := 256) (by decide) (by omega)) rfl ?_
  refine O.convQ hE T3 T5 rfl rfl w8 rfl ?_
  refine O.move rfl rfl ?_
  refine O.lenN hE T32 rfl rfl rfl newest_pv hlm rfl ?_
  refine O.convQ hE T3 T5 rfl rfl w8 rfl ?_
  refine O.move rfl rfl ?_
  refine O.shrQ rfl rfl (by omega) (fdq (p := 16777216) (by decide) (by omega)) rfl ?_
  refine O.convQ hE T55 T5 rfl rfl w8 rfl ?_
  refine O.move rfl rfl ?_
  refine O.shrQ rfl rfl (by omega) (fdq (p := 65536) (by decide) (by omega)) rfl ?_
  refine O.convQ hE T55 T5 rfl rfl w8 rfl ?_
  refine O.move rfl rfl ?_
  refine O.shrQ rfl rfl (by omega) (fdq (p := 256) (by decide) (by omega)) rfl ?_
  refine O.convQ hE T55 T5 rfl rfl w8 rfl ?_
  refine O.move rfl rfl ?_
  refine O.convQ hE T55 T5 rfl rfl w8 rfl ?_
  refine O.lit hE 24 T32 rfl T5 rfl rfl rfl rfl rfl rfl rfl rfl ?_
  refine O.move rfl rfl ?_
  refine O.appI (q := [(b.length : Int) / 256 % 256, (b.length : Int) % 256, C / 16777216 % 256, C / 65536 % 256, C / 256 % 256, C % 256]) hE T32 rfl T5 rfl rfl rfl rfl rfl newest_pv rfl rfl rfl rfl (by simp only [List.length_cons, List.length_nil, Nat.mul_one]; omega) (by unfold maxLen; simp only [List.length_cons, List.length_nil]; omega) rfl ?_
  refine O.assign rfl rfl ?_
  refine O.nil ?_
  try refine Run.keep [0, 2, 3] rfl rfl ?_
  refine Run.ret ?_
  exact Ends.of hE (.inr rfl) rfl rfl (SLe.drop (by repeat (first | exact TmIn.nil | refine TmIn.cons rfl ?_)) (by repeat (first | exact BxIn.nil | refine BxIn.cons rfl ?_)) rfl rfl)
end Go.Proofs.Ytalcpfpjkfpmbaa.Vm
