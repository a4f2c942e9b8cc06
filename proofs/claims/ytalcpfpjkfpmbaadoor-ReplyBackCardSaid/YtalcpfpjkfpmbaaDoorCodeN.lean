/- What is no value is told so. Conditions: none beyond the tables of utf8. Printed by gen_bad.py. -/
import Derived.Test.YtalcpfpjkfpmbaaDoorCodeL
namespace Go.Proofs.YtalcpfpjkfpmbaaDoor.Vm
open Go Go.RowKit Go.Lib
set_option linter.unusedVariables false
set_option linter.unusedSimpArgs false
attribute [local irreducible] Ops Dr Run eightU turnU backU
variable {g : Nat → Option (List PV)}
/-- What begins here is no value. -/
def ReadBad (g : Nat → Option (List PV)) (b : List Int) (p : Nat) (B : Bool) : Prop := ∃ (e : Int) (q : Nat), e ≠ 0 ∧ FnL (EnL Tryd.prog g lnD) 30 [cloD] (bD b p (flB B)) (.tup [vl0, .pv (.int .i64 e)]) (bD b q (flB B))
theorem flt_nan {n : Nat} (h : n < 18446744073709551616) (h2 : 9218868437227405312 < n % 9223372036854775808) : (FloatKind.f64.format.order n n != some .eq) = true := by
  have hs : Ieee.double.signWeight = 9223372036854775808 := rfl
  have hb : Ieee.double.binade = 4503599627370496 := rfl
  have hi : Ieee.double.infRung = 9218868437227405312 := rfl
  have e : Ieee.double.order n n = none := by
    unfold Ieee.Format.order Ieee.Format.read
    simp only [hs, hb, hi]
    rw [if_neg (by omega), if_neg (by omega), if_neg (by omega)]
    rfl
  rw [show FloatKind.f64.format = Ieee.double from rfl, e]
  rfl
theorem fnSignbit1 : FnC (En Tryd.prog g) 36 [.pv (.flt .f64 9223372036854775808)] (.pv (.bool true)) [] := by
  have hE := EnOk g
  refine FnC.of Tryd.func36 rfl rfl rfl rfl ?_
  repeat (first | refine Run.seq ?_ | refine Run.skip ?_ | refine Run.block ?_)
  refine Run.region ?_
  refine O.assign rfl rfl ?_
  refine O.nil ?_
  try refine Run.keep [0, 2] rfl rfl ?_
  repeat (first | refine Run.seq ?_ | refine Run.skip ?_ | refine Run.block ?_)
  refine Run.region ?_
  refine O.move rfl rfl ?_
  refine O.extern (e := Extern.MathFloatBits.float64bits) Tryd.func42 (by kernel_rfl) (by kernel_rfl) (by kernel_rfl) (by kernel_rfl) rfl rfl (fun _ => rfl) rfl rfl ?_
  refine O.conv hE T58 T2 rfl rfl rfl ?_
  first | refine O.cmp rfl rfl rfl (by first | exact decide_eq_true (by omega) | exact decide_eq_false (by omega)) rfl ?_ | refine O.cmp rfl rfl rfl rfl rfl ?_
  refine O.assign rfl rfl ?_
  refine O.nil ?_
  try refine Run.keep [0, 2] rfl rfl ?_
  (repeat (first | refine Run.seq ?_ | refine Run.skip ?_)); (try refine Run.ret ?_); first | exact Ends.flat hE (.inr rfl) rfl rfl (AVle.of_eq rfl) rfl | exact Ends.flat hE (.inl rfl) rfl rfl (AVle.of_eq rfl) rfl
theorem check_bool {n : Int} (h0 : n ≠ 0) (h1 : n ≠ 1) : FnC (En Tryd.prog g) 27 [vlA ⟨1, n, 0, ⟨#[]⟩⟩] (.pv (.int .i64 3)) [] := by
  have hE := EnOk g
  dsimp only [vlA]
  refine FnC.of Tryd.func27 rfl rfl rfl rfl ?_
  repeat (first | refine Run.seq ?_ | refine Run.skip ?_ | refine Run.block ?_)
  refine Run.region ?_
  refine O.box 1 rfl (by first | rfl | exact cells_ones (by simp [ones_app, ones_ints, ones, AV.one, PV.one])) rfl rfl ?_
  refine O.assign rfl rfl ?_
  refine O.nil ?_
  try refine Run.keep [0, 1, 2, 3, 11, 15, 48, 50, 51, 60, 61, 76, 77, 82] rfl rfl ?_
  repeat (first | refine Run.seq ?_ | refine Run.skip ?_ | refine Run.block ?_)
  refine Run.region ?_
  refine O.field hE L60 rfl rfl rfl rfl ?_
  first | refine O.loadS hE T3 rfl rfl rfl (by rfl) rfl ?_ | refine O.loadE hE T3 rfl rfl (by rfl) rfl ?_ | refine O.load hE T3 rfl rfl rfl rfl ?_
  first | refine O.cmp rfl rfl rfl (by first | exact decide_eq_true (by omega) | exact decide_eq_false (by omega)) rfl ?_ | refine O.cmp rfl rfl rfl rfl rfl ?_
  refine O.move rfl rfl ?_
  first | (refine O.yes rfl rfl (by first | rfl | assumption) ?_; refine O.field hE L60 rfl rfl rfl rfl ?_) | refine O.no rfl rfl rfl rfl ?_
  first | (refine O.yes rfl rfl (by first | rfl | assumption) ?_; first | refine O.loadS hE T3 rfl rfl rfl (by rfl) rfl ?_ | refine O.loadE hE T3 rfl rfl (by rfl) rfl ?_ | refine O.load hE T3 rfl rfl rfl rfl ?_) | refine O.no rfl rfl rfl rfl ?_
  first | (refine O.yes rfl rfl (by first | rfl | assumption) ?_; first | refine O.cmp rfl rfl rfl (by first | exact decide_eq_true (by omega) | exact decide_eq_false (by omega)) rfl ?_ | refine O.cmp rfl rfl rfl rfl rfl ?_) | refine O.no rfl rfl rfl rfl ?_
  refine O.pick rfl rfl rfl rfl rfl ?_
  refine O.nil ?_
  try refine Run.keep [0, 1, 2, 3, 11, 15, 48, 50, 51, 60, 61, 76, 77, 82] rfl rfl ?_
  repeat (first | refine Run.seq ?_ | refine Run.skip ?_)
  first | refine Run.condT rfl rfl ?_ | refine Run.condF rfl rfl ?_ | refine Run.condT rfl (by assumption) ?_ | refine Run.condF rfl (by assumption) ?_
  repeat (first | refine Run.seq ?_ | refine Run.skip ?_ | refine Run.block ?_)
  refine Run.region ?_
  refine O.field hE L60 rfl rfl rfl rfl ?_
  first | refine O.loadS hE T9 rfl rfl rfl (by rfl) rfl ?_ | refine O.loadE hE T9 rfl rfl (by rfl) rfl ?_ | refine O.load hE T9 rfl rfl rfl rfl ?_
  refine O.lenStr hE T9 rfl rfl rfl ?_
  first | refine O.cmp rfl rfl rfl (by first | exact decide_eq_true (by omega) | exact decide_eq_false (by omega)) rfl ?_ | refine O.cmp rfl rfl rfl rfl rfl ?_
  refine O.nil ?_
  try refine Run.keep [0, 1, 2, 3, 11, 15, 48, 50, 51, 60, 61, 76, 77, 82] rfl rfl ?_
  repeat (first | refine Run.seq ?_ | refine Run.skip ?_)
  first | refine Run.condT rfl rfl ?_ | refine Run.condF rfl rfl ?_ | refine Run.condT rfl (by assumption) ?_ | refine Run.condF rfl (by assumption) ?_
  repeat (first | refine Run.seq ?_ | refine Run.skip ?_ | refine Run.block ?_)
  refine Run.region ?_
  refine O.field hE L60 rfl rfl rfl rfl ?_
  first | refine O.loadS hE T3 rfl rfl rfl (by rfl) rfl ?_ | refine O.loadE hE T3 rfl rfl (by rfl) rfl ?_ | refine O.load hE T3 rfl rfl rfl rfl ?_
  first | refine O.cmp rfl rfl rfl (by first | exact decide_eq_true (by omega) | exact decide_eq_false (by omega)) rfl ?_ | refine O.cmp rfl rfl rfl rfl rfl ?_
  refine O.move rfl rfl ?_
  first | (refine O.yes rfl rfl (by first | rfl | assumption) ?_; refine O.field hE L60 rfl rfl rfl rfl ?_) | refine O.no rfl rfl rfl rfl ?_
  first | (refine O.yes rfl rfl (by first | rfl | assumption) ?_; first | refine O.loadS hE T9 rfl rfl rfl (by rfl) rfl ?_ | refine O.loadE hE T9 rfl rfl (by rfl) rfl ?_ | refine O.load hE T9 rfl rfl rfl rfl ?_) | refine O.no rfl rfl rfl rfl ?_
  first | (refine O.yes rfl rfl (by first | rfl | assumption) ?_; refine O.strNe rfl rfl ne_nil rfl ?_) | refine O.no rfl rfl rfl rfl ?_
  refine O.pick rfl rfl rfl rfl rfl ?_
  refine O.move rfl rfl ?_
  first | (refine O.yes rfl rfl (by first | rfl | assumption) ?_; refine O.field hE L60 rfl rfl rfl rfl ?_) | refine O.no rfl rfl rfl rfl ?_
  first | (refine O.yes rfl rfl (by first | rfl | assumption) ?_; first | refine O.loadS hE T3 rfl rfl rfl (by rfl) rfl ?_ | refine O.loadE hE T3 rfl rfl (by rfl) rfl ?_ | refine O.load hE T3 rfl rfl rfl rfl ?_) | refine O.no rfl rfl rfl rfl ?_
  first | (refine O.yes rfl rfl (by first | rfl | assumption) ?_; first | refine O.cmp rfl rfl rfl (by first | exact decide_eq_true (by omega) | exact decide_eq_false (by omega)) rfl ?_ | refine O.cmp rfl rfl rfl rfl rfl ?_) | refine O.no rfl rfl rfl rfl ?_
  first | (refine O.yes rfl rfl (by first | rfl | assumption) ?_; refine O.move rfl rfl ?_) | refine O.no rfl rfl rfl rfl ?_
  first | (refine O.yes rfl rfl (by first | rfl | assumption) ?_; refine O.field hE L60 rfl rfl rfl rfl ?_) | refine O.no rfl rfl rfl rfl ?_
  first | (refine O.yes rfl rfl (by first | rfl | assumption) ?_; first | refine O.loadS hE T58 rfl rfl rfl (by rfl) rfl ?_ | refine O.loadE hE T58 rfl rfl (by rfl) rfl ?_ | refine O.load hE T58 rfl rfl rfl rfl ?_) | refine O.no rfl rfl rfl rfl ?_
  first | (refine O.yes rfl rfl (by first | rfl | assumption) ?_; first | refine O.cmp rfl rfl rfl (by first | exact decide_eq_true (by omega) | exact decide_eq_false (by omega)) rfl ?_ | refine O.cmp rfl rfl rfl rfl rfl ?_) | refine O.no rfl rfl rfl rfl ?_
  first | (refine O.yes rfl rfl (by first | rfl | assumption) ?_; refine O.pick rfl rfl rfl rfl rfl ?_) | refine O.no rfl rfl rfl rfl ?_
  refine O.pick rfl rfl rfl rfl rfl ?_
  refine O.move rfl rfl ?_
  first | (refine O.yes rfl rfl (by first | rfl | assumption) ?_; refine O.field hE L60 rfl rfl rfl rfl ?_) | refine O.no rfl rfl rfl rfl ?_
  first | (refine O.yes rfl rfl (by first | rfl | assumption) ?_; first | refine O.loadS hE T3 rfl rfl rfl (by rfl) rfl ?_ | refine O.loadE hE T3 rfl rfl (by rfl) rfl ?_ | refine O.load hE T3 rfl rfl rfl rfl ?_) | refine O.no rfl rfl rfl rfl ?_
  first | (refine O.yes rfl rfl (by first | rfl | assumption) ?_; first | refine O.cmp rfl rfl rfl (by first | exact decide_eq_true (by omega) | exact decide_eq_false (by omega)) rfl ?_ | refine O.cmp rfl rfl rfl rfl rfl ?_) | refine O.no rfl rfl rfl rfl ?_
  first | (refine O.yes rfl rfl (by first | rfl | assumption) ?_; refine O.move rfl rfl ?_) | refine O.no rfl rfl rfl rfl ?_
  first | (refine O.yes rfl rfl (by first | rfl | assumption) ?_; refine O.field hE L60 rfl rfl rfl rfl ?_) | refine O.no rfl rfl rfl rfl ?_
  first | (refine O.yes rfl rfl (by first | rfl | assumption) ?_; first | refine O.loadS hE T3 rfl rfl rfl (by rfl) rfl ?_ | refine O.loadE hE T3 rfl rfl (by rfl) rfl ?_ | refine O.load hE T3 rfl rfl rfl rfl ?_) | refine O.no rfl rfl rfl rfl ?_
  first | (refine O.yes rfl rfl (by first | rfl | assumption) ?_; first | refine O.cmp rfl rfl rfl (by first | exact decide_eq_true (by omega) | exact decide_eq_false (by omega)) rfl ?_ | refine O.cmp rfl rfl rfl rfl rfl ?_) | refine O.no rfl rfl rfl rfl ?_
  first | (refine O.yes rfl rfl (by first | rfl | assumption) ?_; refine O.pick rfl rfl rfl rfl rfl ?_) | refine O.no rfl rfl rfl rfl ?_
  first | (refine O.yes rfl rfl (by first | rfl | assumption) ?_; refine O.move rfl rfl ?_) | refine O.no rfl rfl rfl rfl ?_
  first | (refine O.yes rfl rfl (by first | rfl | assumption) ?_; refine O.field hE L60 rfl rfl rfl rfl ?_) | refine O.no rfl rfl rfl rfl ?_
  first | (refine O.yes rfl rfl (by first | rfl | assumption) ?_; first | refine O.loadS hE T3 rfl rfl rfl (by rfl) rfl ?_ | refine O.loadE hE T3 rfl rfl (by rfl) rfl ?_ | refine O.load hE T3 rfl rfl rfl rfl ?_) | refine O.no rfl rfl rfl rfl ?_
  first | (refine O.yes rfl rfl (by first | rfl | assumption) ?_; first | refine O.cmp rfl rfl rfl (by first | exact decide_eq_true (by omega) | exact decide_eq_false (by omega)) rfl ?_ | refine O.cmp rfl rfl rfl rfl rfl ?_) | refine O.no rfl rfl rfl rfl ?_
  first | (refine O.yes rfl rfl (by first | rfl | assumption) ?_; refine O.pick rfl rfl rfl rfl rfl ?_) | refine O.no rfl rfl rfl rfl ?_
  refine O.pick rfl rfl rfl rfl rfl ?_
  refine O.nil ?_
  try refine Run.keep [0, 1, 2, 3, 11, 15, 48, 50, 51, 60, 61, 76, 77, 82] rfl rfl ?_
  repeat (first | refine Run.seq ?_ | refine Run.skip ?_)
  first | refine Run.condT rfl rfl ?_ | refine Run.condF rfl rfl ?_ | refine Run.condT rfl (by assumption) ?_ | refine Run.condF rfl (by assumption) ?_
  repeat (first | refine Run.seq ?_ | refine Run.skip ?_ | refine Run.block ?_)
  refine Run.region ?_
  refine O.field hE L60 rfl rfl rfl rfl ?_
  first | refine O.loadS hE T3 rfl rfl rfl (by rfl) rfl ?_ | refine O.loadE hE T3 rfl rfl (by rfl) rfl ?_ | refine O.load hE T3 rfl rfl rfl rfl ?_
  refine O.nil ?_
  try refine Run.keep [0, 1, 2, 3, 11, 15, 48, 50, 51, 60, 61, 76, 77, 82] rfl rfl ?_
  repeat (first | refine Run.seq ?_ | refine Run.skip ?_ | refine Run.block ?_)
  refine Run.region ?_
  first | refine O.cmp rfl rfl rfl (by first | exact decide_eq_true (by omega) | exact decide_eq_false (by omega)) rfl ?_ | refine O.cmp rfl rfl rfl rfl rfl ?_
  refine O.assign rfl rfl ?_
  refine O.nil ?_
  try refine Run.keep [0, 1, 2, 3, 11, 15, 48, 50, 51, 60, 61, 76, 77, 82] rfl rfl ?_
  repeat (first | refine Run.seq ?_ | refine Run.skip ?_)
  first | refine Run.condT rfl rfl ?_ | refine Run.condF rfl rfl ?_ | refine Run.condT rfl (by assumption) ?_ | refine Run.condF rfl (by assumption) ?_
  repeat (first | refine Run.seq ?_ | refine Run.skip ?_ | refine Run.block ?_)
  refine Run.region ?_
  refine O.field hE L60 rfl rfl rfl rfl ?_
  first | refine O.loadS hE T3 rfl rfl rfl (by rfl) rfl ?_ | refine O.loadE hE T3 rfl rfl (by rfl) rfl ?_ | refine O.load hE T3 rfl rfl rfl rfl ?_
  refine O.cmp (c' := true) rfl rfl rfl (by simpa using h0) rfl ?_
  refine O.move rfl rfl ?_
  first | (refine O.yes rfl rfl (by first | rfl | assumption) ?_; refine O.field hE L60 rfl rfl rfl rfl ?_) | refine O.no rfl rfl rfl rfl ?_
  first | (refine O.yes rfl rfl (by first | rfl | assumption) ?_; first | refine O.loadS hE T3 rfl rfl rfl (by rfl) rfl ?_ | refine O.loadE hE T3 rfl rfl (by rfl) rfl ?_ | refine O.load hE T3 rfl rfl rfl rfl ?_) | refine O.no rfl rfl rfl rfl ?_
  first | (refine O.yes rfl rfl (by first | rfl | assumption) ?_; refine O.cmp (c' := true) rfl rfl rfl (by simpa using h1) rfl ?_) | refine O.no rfl rfl rfl rfl ?_
  refine O.pick rfl rfl rfl rfl rfl ?_
  refine O.nil ?_
  try refine Run.keep [0, 1, 2, 3, 11, 15, 48, 50, 51, 60, 61, 76, 77, 82] rfl rfl ?_
  repeat (first | refine Run.seq ?_ | refine Run.skip ?_)
  first | refine Run.condT rfl rfl ?_ | refine Run.condF rfl rfl ?_ | refine Run.condT rfl (by assumption) ?_ | refine Run.condF rfl (by assumption) ?_
  repeat (first | refine Run.seq ?_ | refine Run.skip ?_ | refine Run.block ?_)
  refine Run.region ?_
  refine O.assign rfl rfl ?_
  refine O.nil ?_
  try refine Run.keep [0, 1, 2, 3, 11, 15, 48, 50, 51, 60, 61, 76, 77, 82] rfl rfl ?_
  refine Run.ret ?_
  (repeat (first | refine Run.seq ?_ | refine Run.skip ?_)); (try refine Run.ret ?_); first | exact Ends.flat hE (.inr rfl) rfl rfl (AVle.of_eq rfl) rfl | exact Ends.flat hE (.inl rfl) rfl rfl (AVle.of_eq rfl) rfl
theorem check_real {n : Nat} (hn : n < 18446744073709551616) (hb : ¬ FinW n) : FnC (En Tryd.prog g) 27 [vlA ⟨3, 0, (n : Int), ⟨#[]⟩⟩] (.pv (.int .i64 3)) [] := by
  have hE := EnOk g
  have h3 : Int.toNat (n : Int) = n := Int.toNat_natCast n
  dsimp only [vlA]
  by_cases hz : n = 9223372036854775808
  ·
    subst hz
    have h1 : (FloatKind.f64.format.order 9223372036854775808 9223372036854775808 != some .eq) = false := by decide +kernel
    have h2 : (FloatKind.f64.format.order 9223372036854775808 0 == some .eq) = true := by decide +kernel
    have c1 := fnSignbit1 (g := g)
    refine FnC.of Tryd.func27 rfl rfl rfl rfl ?_
    repeat (first | refine Run.seq ?_ | refine Run.skip ?_ | refine Run.block ?_)
    refine Run.region ?_
    refine O.box 1 rfl (by first | rfl | exact cells_ones (by simp [ones_app, ones_ints, ones, AV.one, PV.one])) rfl rfl ?_
    refine O.assign rfl rfl ?_
    refine O.nil ?_
    try refine Run.keep [0, 1, 2, 3, 11, 15, 48, 50, 51, 60, 61, 76, 77, 82] rfl rfl ?_
    repeat (first | refine Run.seq ?_ | refine Run.skip ?_ | refine Run.block ?_)
    refine Run.region ?_
    refine O.field hE L60 rfl rfl rfl rfl ?_
    first | refine O.loadS hE T3 rfl rfl rfl (by rfl) rfl ?_ | refine O.loadE hE T3 rfl rfl (by rfl) rfl ?_ | refine O.load hE T3 rfl rfl rfl rfl ?_
    first | refine O.cmp rfl rfl rfl (by first | exact decide_eq_true (by omega) | exact decide_eq_false (by omega)) rfl ?_ | refine O.cmp rfl rfl rfl rfl rfl ?_
    refine O.move rfl rfl ?_
    first | (refine O.yes rfl rfl (by first | rfl | assumption) ?_; refine O.field hE L60 rfl rfl rfl rfl ?_) | refine O.no rfl rfl rfl rfl ?_
    first | (refine O.yes rfl rfl (by first | rfl | assumption) ?_; first | refine O.loadS hE T3 rfl rfl rfl (by rfl) rfl ?_ | refine O.loadE hE T3 rfl rfl (by rfl) rfl ?_ | refine O.load hE T3 rfl rfl rfl rfl ?_) | refine O.no rfl rfl rfl rfl ?_
    first | (refine O.yes rfl rfl (by first | rfl | assumption) ?_; first | refine O.cmp rfl rfl rfl (by first | exact decide_eq_true (by omega) | exact decide_eq_false (by omega)) rfl ?_ | refine O.cmp rfl rfl rfl rfl rfl ?_) | refine O.no rfl rfl rfl rfl ?_
    refine O.pick rfl rfl rfl rfl rfl ?_
    refine O.nil ?_
    try refine Run.keep [0, 1, 2, 3, 11, 15, 48, 50, 51, 60, 61, 76, 77, 82] rfl rfl ?_
    repeat (first | refine Run.seq ?_ | refine Run.skip ?_)
    first | refine Run.condT rfl rfl ?_ | refine Run.condF rfl rfl ?_ | refine Run.condT rfl (by assumption) ?_ | refine Run.condF rfl (by assumption) ?_
    repeat (first | refine Run.seq ?_ | refine Run.skip ?_ | refine Run.block ?_)
    refine Run.region ?_
    refine O.field hE L60 rfl rfl rfl rfl ?_
    first | refine O.loadS hE T9 rfl rfl rfl (by rfl) rfl ?_ | refine O.loadE hE T9 rfl rfl (by rfl) rfl ?_ | refine O.load hE T9 rfl rfl rfl rfl ?_
    refine O.lenStr hE T9 rfl rfl rfl ?_
    first | refine O.cmp rfl rfl rfl (by first | exact decide_eq_true (by omega) | exact decide_eq_false (by omega)) rfl ?_ | refine O.cmp rfl rfl rfl rfl rfl ?_
    refine O.nil ?_
    try refine Run.keep [0, 1, 2, 3, 11, 15, 48, 50, 51, 60, 61, 76, 77, 82] rfl rfl ?_
    repeat (first | refine Run.seq ?_ | refine Run.skip ?_)
    first | refine Run.condT rfl rfl ?_ | refine Run.condF rfl rfl ?_ | refine Run.condT rfl (by assumption) ?_ | refine Run.condF rfl (by assumption) ?_
    repeat (first | refine Run.seq ?_ | refine Run.skip ?_ | refine Run.block ?_)
    refine Run.region ?_
    refine O.field hE L60 rfl rfl rfl rfl ?_
    first | refine O.loadS hE T3 rfl rfl rfl (by rfl) rfl ?_ | refine O.loadE hE T3 rfl rfl (by rfl) rfl ?_ | refine O.load hE T3 rfl rfl rfl rfl ?_
    first | refine O.cmp rfl rfl rfl (by first | exact decide_eq_true (by omega) | exact decide_eq_false (by omega)) rfl ?_ | refine O.cmp rfl rfl rfl rfl rfl ?_
    refine O.move rfl rfl ?_
    first | (refine O.yes rfl rfl (by first | rfl | assumption) ?_; refine O.field hE L60 rfl rfl rfl rfl ?_) | refine O.no rfl rfl rfl rfl ?_
    first | (refine O.yes rfl rfl (by first | rfl | assumption) ?_; first | refine O.loadS hE T9 rfl rfl rfl (by rfl) rfl ?_ | refine O.loadE hE T9 rfl rfl (by rfl) rfl ?_ | refine O.load hE T9 rfl rfl rfl rfl ?_) | refine O.no rfl rfl rfl rfl ?_
    first | (refine O.yes rfl rfl (by first | rfl | assumption) ?_; refine O.strNe rfl rfl ne_nil rfl ?_) | refine O.no rfl rfl rfl rfl ?_
    refine O.pick rfl rfl rfl rfl rfl ?_
    refine O.move rfl rfl ?_
    first | (refine O.yes rfl rfl (by first | rfl | assumption) ?_; refine O.field hE L60 rfl rfl rfl rfl ?_) | refine O.no rfl rfl rfl rfl ?_
    first | (refine O.yes rfl rfl (by first | rfl | assumption) ?_; first | refine O.loadS hE T3 rfl rfl rfl (by rfl) rfl ?_ | refine O.loadE hE T3 rfl rfl (by rfl) rfl ?_ | refine O.load hE T3 rfl rfl rfl rfl ?_) | refine O.no rfl rfl rfl rfl ?_
    first | (refine O.yes rfl rfl (by first | rfl | assumption) ?_; first | refine O.cmp rfl rfl rfl (by first | exact decide_eq_true (by omega) | exact decide_eq_false (by omega)) rfl ?_ | refine O.cmp rfl rfl rfl rfl rfl ?_) | refine O.no rfl rfl rfl rfl ?_
    first | (refine O.yes rfl rfl (by first | rfl | assumption) ?_; refine O.move rfl rfl ?_) | refine O.no rfl rfl rfl rfl ?_
    first | (refine O.yes rfl rfl (by first | rfl | assumption) ?_; refine O.field hE L60 rfl rfl rfl rfl ?_) | refine O.no rfl rfl rfl rfl ?_
    first | (refine O.yes rfl rfl (by first | rfl | assumption) ?_; first | refine O.loadS hE T58 rfl rfl rfl (by rfl) rfl ?_ | refine O.loadE hE T58 rfl rfl (by rfl) rfl ?_ | refine O.load hE T58 rfl rfl rfl rfl ?_) | refine O.no rfl rfl rfl rfl ?_
    first | (refine O.yes rfl rfl (by first | rfl | assumption) ?_; first | refine O.cmp rfl rfl rfl (by first | exact decide_eq_true (by omega) | exact decide_eq_false (by omega)) rfl ?_ | refine O.cmp rfl rfl rfl rfl rfl ?_) | refine O.no rfl rfl rfl rfl ?_
    first | (refine O.yes rfl rfl (by first | rfl | assumption) ?_; refine O.pick rfl rfl rfl rfl rfl ?_) | refine O.no rfl rfl rfl rfl ?_
    refine O.pick rfl rfl rfl rfl rfl ?_
    refine O.move rfl rfl ?_
    first | (refine O.yes rfl rfl (by first | rfl | assumption) ?_; refine O.field hE L60 rfl rfl rfl rfl ?_) | refine O.no rfl rfl rfl rfl ?_
    first | (refine O.yes rfl rfl (by first | rfl | assumption) ?_; first | refine O.loadS hE T3 rfl rfl rfl (by rfl) rfl ?_ | refine O.loadE hE T3 rfl rfl (by rfl) rfl ?_ | refine O.load hE T3 rfl rfl rfl rfl ?_) | refine O.no rfl rfl rfl rfl ?_
    first | (refine O.yes rfl rfl (by first | rfl | assumption) ?_; first | refine O.cmp rfl rfl rfl (by first | exact decide_eq_true (by omega) | exact decide_eq_false (by omega)) rfl ?_ | refine O.cmp rfl rfl rfl rfl rfl ?_) | refine O.no rfl rfl rfl rfl ?_
    first | (refine O.yes rfl rfl (by first | rfl | assumption) ?_; refine O.move rfl rfl ?_) | refine O.no rfl rfl rfl rfl ?_
    first | (refine O.yes rfl rfl (by first | rfl | assumption) ?_; refine O.field hE L60 rfl rfl rfl rfl ?_) | refine O.no rfl rfl rfl rfl ?_
    first | (refine O.yes rfl rfl (by first | rfl | assumption) ?_; first | refine O.loadS hE T3 rfl rfl rfl (by rfl) rfl ?_ | refine O.loadE hE T3 rfl rfl (by rfl) rfl ?_ | refine O.load hE T3 rfl rfl rfl rfl ?_) | refine O.no rfl rfl rfl rfl ?_
    first | (refine O.yes rfl rfl (by first | rfl | assumption) ?_; first | refine O.cmp rfl rfl rfl (by first | exact decide_eq_true (by omega) | exact decide_eq_false (by omega)) rfl ?_ | refine O.cmp rfl rfl rfl rfl rfl ?_) | refine O.no rfl rfl rfl rfl ?_
    first | (refine O.yes rfl rfl (by first | rfl | assumption) ?_; refine O.pick rfl rfl rfl rfl rfl ?_) | refine O.no rfl rfl rfl rfl ?_
    first | (refine O.yes rfl rfl (by first | rfl | assumption) ?_; refine O.move rfl rfl ?_) | refine O.no rfl rfl rfl rfl ?_
    first | (refine O.yes rfl rfl (by first | rfl | assumption) ?_; refine O.field hE L60 rfl rfl rfl rfl ?_) | refine O.no rfl rfl rfl rfl ?_
    first | (refine O.yes rfl rfl (by first | rfl | assumption) ?_; first | refine O.loadS hE T3 rfl rfl rfl (by rfl) rfl ?_ | refine O.loadE hE T3 rfl rfl (by rfl) rfl ?_ | refine O.load hE T3 rfl rfl rfl rfl ?_) | refine O.no rfl rfl rfl rfl ?_
    first | (refine O.yes rfl rfl (by first | rfl | assumption) ?_; first | refine O.cmp rfl rfl rfl (by first | exact decide_eq_true (by omega) | exact decide_eq_false (by omega)) rfl ?_ | refine O.cmp rfl rfl rfl rfl rfl ?_) | refine O.no rfl rfl rfl rfl ?_
    first | (refine O.yes rfl rfl (by first | rfl | assumption) ?_; refine O.pick rfl rfl rfl rfl rfl ?_) | refine O.no rfl rfl rfl rfl ?_
    refine O.pick rfl rfl rfl rfl rfl ?_
    refine O.nil ?_
    try refine Run.keep [0, 1, 2, 3, 11, 15, 48, 50, 51, 60, 61, 76, 77, 82] rfl rfl ?_
    repeat (first | refine Run.seq ?_ | refine Run.skip ?_)
    first | refine Run.condT rfl rfl ?_ | refine Run.condF rfl rfl ?_ | refine Run.condT rfl (by assumption) ?_ | refine Run.condF rfl (by assumption) ?_
    repeat (first | refine Run.seq ?_ | refine Run.skip ?_ | refine Run.block ?_)
    refine Run.region ?_
    refine O.field hE L60 rfl rfl rfl rfl ?_
    first | refine O.loadS hE T3 rfl rfl rfl (by rfl) rfl ?_ | refine O.loadE hE T3 rfl rfl (by rfl) rfl ?_ | refine O.load hE T3 rfl rfl rfl rfl ?_
    refine O.nil ?_
    try refine Run.keep [0, 1, 2, 3, 11, 15, 48, 50, 51, 60, 61, 76, 77, 82] rfl rfl ?_
    repeat (first | refine Run.seq ?_ | refine Run.skip ?_ | refine Run.block ?_)
    refine Run.region ?_
    first | refine O.cmp rfl rfl rfl (by first | exact decide_eq_true (by omega) | exact decide_eq_false (by omega)) rfl ?_ | refine O.cmp rfl rfl rfl rfl rfl ?_
    refine O.assign rfl rfl ?_
    refine O.nil ?_
    try refine Run.keep [0, 1, 2, 3, 11, 15, 48, 50, 51, 60, 61, 76, 77, 82] rfl rfl ?_
    repeat (first | refine Run.seq ?_ | refine Run.skip ?_)
    first | refine Run.condT rfl rfl ?_ | refine Run.condF rfl rfl ?_ | refine Run.condT rfl (by assumption) ?_ | refine Run.condF rfl (by assumption) ?_
    repeat (first | refine Run.seq ?_ | refine Run.skip ?_ | refine Run.block ?_)
    refine Run.region ?_
    first | refine O.cmp rfl rfl rfl (by first | exact decide_eq_true (by omega) | exact decide_eq_false (by omega)) rfl ?_ | refine O.cmp rfl rfl rfl rfl rfl ?_
    refine O.assign rfl rfl ?_
    refine O.nil ?_
    try refine Run.keep [0, 1, 2, 3, 11, 15, 48, 50, 51, 60, 61, 76, 77, 82] rfl rfl ?_
    repeat (first | refine Run.seq ?_ | refine Run.skip ?_)
    first | refine Run.condT rfl rfl ?_ | refine Run.condF rfl rfl ?_ | refine Run.condT rfl (by assumption) ?_ | refine Run.condF rfl (by assumption) ?_
    repeat (first | refine Run.seq ?_ | refine Run.skip ?_ | refine Run.block ?_)
    refine Run.region ?_
    refine O.field hE L60 rfl rfl rfl rfl ?_
    first | refine O.loadS hE T58 rfl rfl rfl (by rfl) rfl ?_ | refine O.loadE hE T58 rfl rfl (by rfl) rfl ?_ | refine O.load hE T58 rfl rfl rfl rfl ?_
    refine O.extern (e := Extern.MathFloatBits.float64frombits) (v := .float .f64 9223372036854775808) Tryd.func35 (by kernel_rfl) (by kernel_rfl) (by kernel_rfl) (by kernel_rfl) rfl rfl (fun _ => rfl) rfl rfl ?_
    refine O.assign rfl rfl ?_
    refine O.nil ?_
    try refine Run.keep [0, 1, 2, 3, 11, 15, 48, 50, 51, 60, 61, 76, 77, 82] rfl rfl ?_
    repeat (first | refine Run.seq ?_ | refine Run.skip ?_ | refine Run.block ?_)
    refine Run.region ?_
    refine O.move rfl rfl ?_
    refine O.move rfl rfl ?_
    refine O.neF rfl rfl h1 rfl ?_
    refine O.move rfl rfl ?_
    first | (refine O.yes rfl rfl (by first | rfl | assumption) ?_; refine O.move rfl rfl ?_) | refine O.no rfl rfl rfl rfl ?_
    first | (refine O.yes rfl rfl (by first | rfl | assumption) ?_; refine O.eqF rfl rfl h2 rfl ?_) | refine O.no rfl rfl rfl rfl ?_
    first | (refine O.yes rfl rfl (by first | rfl | assumption) ?_; refine O.move rfl rfl ?_) | refine O.no rfl rfl rfl rfl ?_
    first | (refine O.yes rfl rfl (by first | rfl | assumption) ?_; refine O.move rfl rfl ?_) | refine O.no rfl rfl rfl rfl ?_
    first | (refine O.yes rfl rfl (by first | rfl | assumption) ?_; refine O.callE c1 rfl (by first | rfl | simp [closed, men3, mens2_app, mens2_ints, mens2, men2, men1, mens1_app, mens1_ints, mens1]) (by first | rfl | simp [d2, ds1_ints, ds1_app, ds1, d1, ds0_app, ds0_ints, ds0, d0]) rfl ?_) | refine O.no rfl rfl rfl rfl ?_
    first | (refine O.yes rfl rfl (by first | rfl | assumption) ?_; refine O.pick rfl rfl rfl rfl rfl ?_) | refine O.no rfl rfl rfl rfl ?_
    refine O.pick rfl rfl rfl rfl rfl ?_
    refine O.nil ?_
    try refine Run.keep [0, 1, 2, 3, 11, 15, 48, 50, 51, 60, 61, 76, 77, 82] rfl rfl ?_
    repeat (first | refine Run.seq ?_ | refine Run.skip ?_)
    first | refine Run.condT rfl rfl ?_ | refine Run.condF rfl rfl ?_ | refine Run.condT rfl (by assumption) ?_ | refine Run.condF rfl (by assumption) ?_
    repeat (first | refine Run.seq ?_ | refine Run.skip ?_ | refine Run.block ?_)
    refine Run.region ?_
    refine O.assign rfl rfl ?_
    refine O.nil ?_
    try refine Run.keep [0, 1, 2, 3, 11, 15, 48, 50, 51, 60, 61, 76, 77, 82] rfl rfl ?_
    refine Run.ret ?_
    (repeat (first | refine Run.seq ?_ | refine Run.skip ?_)); (try refine Run.ret ?_); first | exact Ends.flat hE (.inr rfl) rfl rfl (AVle.of_eq rfl) rfl | exact Ends.flat hE (.inl rfl) rfl rfl (AVle.of_eq rfl) rfl
  ·
    have h1 := flt_nan hn (by unfold FinW at hb; omega)
    have c9 := fnSignbit1 (g := g)
    refine FnC.of Tryd.func27 rfl rfl rfl rfl ?_
    repeat (first | refine Run.seq ?_ | refine Run.skip ?_ | refine Run.block ?_)
    refine Run.region ?_
    refine O.box 1 rfl (by first | rfl | exact cells_ones (by simp [ones_app, ones_ints, ones, AV.one, PV.one])) rfl rfl ?_
    refine O.assign rfl rfl ?_
    refine O.nil ?_
    try refine Run.keep [0, 1, 2, 3, 11, 15, 48, 50, 51, 60, 61, 76, 77, 82] rfl rfl ?_
    repeat (first | refine Run.seq ?_ | refine Run.skip ?_ | refine Run.block ?_)
    refine Run.region ?_
    refine O.field hE L60 rfl rfl rfl rfl ?_
    first | refine O.loadS hE T3 rfl rfl rfl (by rfl) rfl ?_ | refine O.loadE hE T3 rfl rfl (by rfl) rfl ?_ | refine O.load hE T3 rfl rfl rfl rfl ?_
    first | refine O.cmp rfl rfl rfl (by first | exact decide_eq_true (by omega) | exact decide_eq_false (by omega)) rfl ?_ | refine O.cmp rfl rfl rfl rfl rfl ?_
    refine O.move rfl rfl ?_
    first | (refine O.yes rfl rfl (by first | rfl | assumption) ?_; refine O.field hE L60 rfl rfl rfl rfl ?_) | refine O.no rfl rfl rfl rfl ?_
    first | (refine O.yes rfl rfl (by first | rfl | assumption) ?_; first | refine O.loadS hE T3 rfl rfl rfl (by rfl) rfl ?_ | refine O.loadE hE T3 rfl rfl (by rfl) rfl ?_ | refine O.load hE T3 rfl rfl rfl rfl ?_) | refine O.no rfl rfl rfl rfl ?_
    first | (refine O.yes rfl rfl (by first | rfl | assumption) ?_; first | refine O.cmp rfl rfl rfl (by first | exact decide_eq_true (by omega) | exact decide_eq_false (by omega)) rfl ?_ | refine O.cmp rfl rfl rfl rfl rfl ?_) | refine O.no rfl rfl rfl rfl ?_
    refine O.pick rfl rfl rfl rfl rfl ?_
    refine O.nil ?_
    try refine Run.keep [0, 1, 2, 3, 11, 15, 48, 50, 51, 60, 61, 76, 77, 82] rfl rfl ?_
    repeat (first | refine Run.seq ?_ | refine Run.skip ?_)
    first | refine Run.condT rfl rfl ?_ | refine Run.condF rfl rfl ?_ | refine Run.condT rfl (by assumption) ?_ | refine Run.condF rfl (by assumption) ?_
    repeat (first | refine Run.seq ?_ | refine Run.skip ?_ | refine Run.block ?_)
    refine Run.region ?_
    refine O.field hE L60 rfl rfl rfl rfl ?_
    first | refine O.loadS hE T9 rfl rfl rfl (by rfl) rfl ?_ | refine O.loadE hE T9 rfl rfl (by rfl) rfl ?_ | refine O.load hE T9 rfl rfl rfl rfl ?_
    refine O.lenStr hE T9 rfl rfl rfl ?_
    first | refine O.cmp rfl rfl rfl (by first | exact decide_eq_true (by omega) | exact decide_eq_false (by omega)) rfl ?_ | refine O.cmp rfl rfl rfl rfl rfl ?_
    refine O.nil ?_
    try refine Run.keep [0, 1, 2, 3, 11, 15, 48, 50, 51, 60, 61, 76, 77, 82] rfl rfl ?_
    repeat (first | refine Run.seq ?_ | refine Run.skip ?_)
    first | refine Run.condT rfl rfl ?_ | refine Run.condF rfl rfl ?_ | refine Run.condT rfl (by assumption) ?_ | refine Run.condF rfl (by assumption) ?_
    repeat (first | refine Run.seq ?_ | refine Run.skip ?_ | refine Run.block ?_)
    refine Run.region ?_
    refine O.field hE L60 rfl rfl rfl rfl ?_
    first | refine O.loadS hE T3 rfl rfl rfl (by rfl) rfl ?_ | refine O.loadE hE T3 rfl rfl (by rfl) rfl ?_ | refine O.load hE T3 rfl rfl rfl rfl ?_
    first | refine O.cmp rfl rfl rfl (by first | exact decide_eq_true (by omega) | exact decide_eq_false (by omega)) rfl ?_ | refine O.cmp rfl rfl rfl rfl rfl ?_
    refine O.move rfl rfl ?_
    first | (refine O.yes rfl rfl (by first | rfl | assumption) ?_; refine O.field hE L60 rfl rfl rfl rfl ?_) | refine O.no rfl rfl rfl rfl ?_
    first | (refine O.yes rfl rfl (by first | rfl | assumption) ?_; first | refine O.loadS hE T9 rfl rfl rfl (by rfl) rfl ?_ | refine O.loadE hE T9 rfl rfl (by rfl) rfl ?_ | refine O.load hE T9 rfl rfl rfl rfl ?_) | refine O.no rfl rfl rfl rfl ?_
    first | (refine O.yes rfl rfl (by first | rfl | assumption) ?_; refine O.strNe rfl rfl ne_nil rfl ?_) | refine O.no rfl rfl rfl rfl ?_
    refine O.pick rfl rfl rfl rfl rfl ?_
    refine O.move rfl rfl ?_
    first | (refine O.yes rfl rfl (by first | rfl | assumption) ?_; refine O.field hE L60 rfl rfl rfl rfl ?_) | refine O.no rfl rfl rfl rfl ?_
    first | (refine O.yes rfl rfl (by first | rfl | assumption) ?_; first | refine O.loadS hE T3 rfl rfl rfl (by rfl) rfl ?_ | refine O.loadE hE T3 rfl rfl (by rfl) rfl ?_ | refine O.load hE T3 rfl rfl rfl rfl ?_) | refine O.no rfl rfl rfl rfl ?_
    first | (refine O.yes rfl rfl (by first | rfl | assumption) ?_; first | refine O.cmp rfl rfl rfl (by first | exact decide_eq_true (by omega) | exact decide_eq_false (by omega)) rfl ?_ | refine O.cmp rfl rfl rfl rfl rfl ?_) | refine O.no rfl rfl rfl rfl ?_
    first | (refine O.yes rfl rfl (by first | rfl | assumption) ?_; refine O.move rfl rfl ?_) | refine O.no rfl rfl rfl rfl ?_
    first | (refine O.yes rfl rfl (by first | rfl | assumption) ?_; refine O.field hE L60 rfl rfl rfl rfl ?_) | refine O.no rfl rfl rfl rfl ?_
    first | (refine O.yes rfl rfl (by first | rfl | assumption) ?_; first | refine O.loadS hE T58 rfl rfl rfl (by rfl) rfl ?_ | refine O.loadE hE T58 rfl rfl (by rfl) rfl ?_ | refine O.load hE T58 rfl rfl rfl rfl ?_) | refine O.no rfl rfl rfl rfl ?_
    first | (refine O.yes rfl rfl (by first | rfl | assumption) ?_; first | refine O.cmp rfl rfl rfl (by first | exact decide_eq_true (by omega) | exact decide_eq_false (by omega)) rfl ?_ | refine O.cmp rfl rfl rfl rfl rfl ?_) | refine O.no rfl rfl rfl rfl ?_
    first | (refine O.yes rfl rfl (by first | rfl | assumption) ?_; refine O.pick rfl rfl rfl rfl rfl ?_) | refine O.no rfl rfl rfl rfl ?_
    refine O.pick rfl rfl rfl rfl rfl ?_
    refine O.move rfl rfl ?_
    first | (refine O.yes rfl rfl (by first | rfl | assumption) ?_; refine O.field hE L60 rfl rfl rfl rfl ?_) | refine O.no rfl rfl rfl rfl ?_
    first | (refine O.yes rfl rfl (by first | rfl | assumption) ?_; first | refine O.loadS hE T3 rfl rfl rfl (by rfl) rfl ?_ | refine O.loadE hE T3 rfl rfl (by rfl) rfl ?_ | refine O.load hE T3 rfl rfl rfl rfl ?_) | refine O.no rfl rfl rfl rfl ?_
    first | (refine O.yes rfl rfl (by first | rfl | assumption) ?_; first | refine O.cmp rfl rfl rfl (by first | exact decide_eq_true (by omega) | exact decide_eq_false (by omega)) rfl ?_ | refine O.cmp rfl rfl rfl rfl rfl ?_) | refine O.no rfl rfl rfl rfl ?_
    first | (refine O.yes rfl rfl (by first | rfl | assumption) ?_; refine O.move rfl rfl ?_) | refine O.no rfl rfl rfl rfl ?_
    first | (refine O.yes rfl rfl (by first | rfl | assumption) ?_; refine O.field hE L60 rfl rfl rfl rfl ?_) | refine O.no rfl rfl rfl rfl ?_
    first | (refine O.yes rfl rfl (by first | rfl | assumption) ?_; first | refine O.loadS hE T3 rfl rfl rfl (by rfl) rfl ?_ | refine O.loadE hE T3 rfl rfl (by rfl) rfl ?_ | refine O.load hE T3 rfl rfl rfl rfl ?_) | refine O.no rfl rfl rfl rfl ?_
    first | (refine O.yes rfl rfl (by first | rfl | assumption) ?_; first | refine O.cmp rfl rfl rfl (by first | exact decide_eq_true (by omega) | exact decide_eq_false (by omega)) rfl ?_ | refine O.cmp rfl rfl rfl rfl rfl ?_) | refine O.no rfl rfl rfl rfl ?_
    first | (refine O.yes rfl rfl (by first | rfl | assumption) ?_; refine O.pick rfl rfl rfl rfl rfl ?_) | refine O.no rfl rfl rfl rfl ?_
    first | (refine O.yes rfl rfl (by first | rfl | assumption) ?_; refine O.move rfl rfl ?_) | refine O.no rfl rfl rfl rfl ?_
    first | (refine O.yes rfl rfl (by first | rfl | assumption) ?_; refine O.field hE L60 rfl rfl rfl rfl ?_) | refine O.no rfl rfl rfl rfl ?_
    first | (refine O.yes rfl rfl (by first | rfl | assumption) ?_; first | refine O.loadS hE T3 rfl rfl rfl (by rfl) rfl ?_ | refine O.loadE hE T3 rfl rfl (by rfl) rfl ?_ | refine O.load hE T3 rfl rfl rfl rfl ?_) | refine O.no rfl rfl rfl rfl ?_
    first | (refine O.yes rfl rfl (by first | rfl | assumption) ?_; first | refine O.cmp rfl rfl rfl (by first | exact decide_eq_true (by omega) | exact decide_eq_false (by omega)) rfl ?_ | refine O.cmp rfl rfl rfl rfl rfl ?_) | refine O.no rfl rfl rfl rfl ?_
    first | (refine O.yes rfl rfl (by first | rfl | assumption) ?_; refine O.pick rfl rfl rfl rfl rfl ?_) | refine O.no rfl rfl rfl rfl ?_
    refine O.pick rfl rfl rfl rfl rfl ?_
    refine O.nil ?_
    try refine Run.keep [0, 1, 2, 3, 11, 15, 48, 50, 51, 60, 61, 76, 77, 82] rfl rfl ?_
    repeat (first | refine Run.seq ?_ | refine Run.skip ?_)
    first | refine Run.condT rfl rfl ?_ | refine Run.condF rfl rfl ?_ | refine Run.condT rfl (by assumption) ?_ | refine Run.condF rfl (by assumption) ?_
    repeat (first | refine Run.seq ?_ | refine Run.skip ?_ | refine Run.block ?_)
    refine Run.region ?_
    refine O.field hE L60 rfl rfl rfl rfl ?_
    first | refine O.loadS hE T3 rfl rfl rfl (by rfl) rfl ?_ | refine O.loadE hE T3 rfl rfl (by rfl) rfl ?_ | refine O.load hE T3 rfl rfl rfl rfl ?_
    refine O.nil ?_
    try refine Run.keep [0, 1, 2, 3, 11, 15, 48, 50, 51, 60, 61, 76, 77, 82] rfl rfl ?_
    repeat (first | refine Run.seq ?_ | refine Run.skip ?_ | refine Run.block ?_)
    refine Run.region ?_
    first | refine O.cmp rfl rfl rfl (by first | exact decide_eq_true (by omega) | exact decide_eq_false (by omega)) rfl ?_ | refine O.cmp rfl rfl rfl rfl rfl ?_
    refine O.assign rfl rfl ?_
    refine O.nil ?_
    try refine Run.keep [0, 1, 2, 3, 11, 15, 48, 50, 51, 60, 61, 76, 77, 82] rfl rfl ?_
    repeat (first | refine Run.seq ?_ | refine Run.skip ?_)
    first | refine Run.condT rfl rfl ?_ | refine Run.condF rfl rfl ?_ | refine Run.condT rfl (by assumption) ?_ | refine Run.condF rfl (by assumption) ?_
    repeat (first | refine Run.seq ?_ | refine Run.skip ?_ | refine Run.block ?_)
    refine Run.region ?_
    first | refine O.cmp rfl rfl rfl (by first | exact decide_eq_true (by omega) | exact decide_eq_false (by omega)) rfl ?_ | refine O.cmp rfl rfl rfl rfl rfl ?_
    refine O.assign rfl rfl ?_
    refine O.nil ?_
    try refine Run.keep [0, 1, 2, 3, 11, 15, 48, 50, 51, 60, 61, 76, 77, 82] rfl rfl ?_
    repeat (first | refine Run.seq ?_ | refine Run.skip ?_)
    first | refine Run.condT rfl rfl ?_ | refine Run.condF rfl rfl ?_ | refine Run.condT rfl (by assumption) ?_ | refine Run.condF rfl (by assumption) ?_
    repeat (first | refine Run.seq ?_ | refine Run.skip ?_ | refine Run.block ?_)
    refine Run.region ?_
    refine O.field hE L60 rfl rfl rfl rfl ?_
    first | refine O.loadS hE T58 rfl rfl rfl (by rfl) rfl ?_ | refine O.loadE hE T58 rfl rfl (by rfl) rfl ?_ | refine O.load hE T58 rfl rfl rfl rfl ?_
    refine O.extern (e := Extern.MathFloatBits.float64frombits) (v := .float .f64 n) Tryd.func35 (by kernel_rfl) (by kernel_rfl) (by kernel_rfl) (by kernel_rfl) rfl rfl (fun _ => rfl) rfl rfl ?_
    refine O.assign rfl rfl ?_
    refine O.nil ?_
    try refine Run.keep [0, 1, 2, 3, 11, 15, 48, 50, 51, 60, 61, 76, 77, 82] rfl rfl ?_
    repeat (first | refine Run.seq ?_ | refine Run.skip ?_ | refine Run.block ?_)
    refine Run.region ?_
    refine O.move rfl rfl ?_
    refine O.move rfl rfl ?_
    refine O.neF rfl rfl h1 rfl ?_
    refine O.move rfl rfl ?_
    first | (refine O.yes rfl rfl (by first | rfl | assumption) ?_; refine O.move rfl rfl ?_) | refine O.no rfl rfl rfl rfl ?_
    first | (refine O.yes rfl rfl (by first | rfl | assumption) ?_; refine O.eqF rfl rfl rfl rfl ?_) | refine O.no rfl rfl rfl rfl ?_
    first | (refine O.yes rfl rfl (by first | rfl | assumption) ?_; refine O.move rfl rfl ?_) | refine O.no rfl rfl rfl rfl ?_
    first | (refine O.yes rfl rfl (by first | rfl | assumption) ?_; refine O.move rfl rfl ?_) | refine O.no rfl rfl rfl rfl ?_
    first | (refine O.yes rfl rfl (by first | rfl | assumption) ?_; refine O.callE c9 rfl (by first | rfl | simp [closed, men3, mens2_app, mens2_ints, mens2, men2, men1, mens1_app, mens1_ints, mens1]) (by first | rfl | simp [d2, ds1_ints, ds1_app, ds1, d1, ds0_app, ds0_ints, ds0, d0]) rfl ?_) | refine O.no rfl rfl rfl rfl ?_
    first | (refine O.yes rfl rfl (by first | rfl | assumption) ?_; refine O.pick rfl rfl rfl rfl rfl ?_) | refine O.no rfl rfl rfl rfl ?_
    refine O.pick rfl rfl rfl rfl rfl ?_
    refine O.nil ?_
    try refine Run.keep [0, 1, 2, 3, 11, 15, 48, 50, 51, 60, 61, 76, 77, 82] rfl rfl ?_
    repeat (first | refine Run.seq ?_ | refine Run.skip ?_)
    first | refine Run.condT rfl rfl ?_ | refine Run.condF rfl rfl ?_ | refine Run.condT rfl (by assumption) ?_ | refine Run.condF rfl (by assumption) ?_
    repeat (first | refine Run.seq ?_ | refine Run.skip ?_ | refine Run.block ?_)
    refine Run.region ?_
    refine O.assign rfl rfl ?_
    refine O.nil ?_
    try refine Run.keep [0, 1, 2, 3, 11, 15, 48, 50, 51, 60, 61, 76, 77, 82] rfl rfl ?_
    refine Run.ret ?_
    (repeat (first | refine Run.seq ?_ | refine Run.skip ?_)); (try refine Run.ret ?_); first | exact Ends.flat hE (.inr rfl) rfl rfl (AVle.of_eq rfl) rfl | exact Ends.flat hE (.inl rfl) rfl rfl (AVle.of_eq rfl) rfl
theorem bad_kind {b s : List Int} {p : Nat} {B : Bool} {c : Int} (hb : b.length ≤ 9223372036854775807) (h : b.drop p = (c :: s).map (flipB B)) (h8 : 0 ≤ c ∧ c < 256) (hc : c = 0 ∨ 5 < c) : ReadBad g b p B := by
  refine ⟨3, p + 1, by decide, ?_⟩
  have hE := EnLOk g lnD
  have c1 := next_fit (g := g) (i := 0) (rest := []) hb (by rw [h, List.append_nil]) rfl h8
  rw [Nat.add_zero] at c1
  have e1 : IntKind.i64.wrap c = c := wrap_i64 (by omega) (by omega)
  obtain ⟨K, hK⟩ : ∃ K, c - 1 = K := ⟨_, rfl⟩
  have e2 : IntKind.i64.wrap (c - 1) = K := by rw [← hK]; exact wrap_i64 (by omega) (by omega)
  have k0 : K ≠ 0 := by omega
  have k1 : K ≠ 1 := by omega
  have k2 : K ≠ 2 := by omega
  have k3 : K ≠ 3 := by omega
  have k4 : K ≠ 4 := by omega
  generalize flB B = fl at *
  clear h
  refine FnL.of Tryd.func30 rfl rfl rfl rfl ?_
  repeat (first | refine Run.seq ?_ | refine Run.skip ?_ | refine Run.block ?_)
  refine Run.region ?_
  refine O.alloc hE 2 T60 rfl rfl rfl ?_
  refine O.assign rfl rfl ?_
  refine O.nil ?_
  try refine Run.keep [0, 2, 3, 4, 5, 6, 7, 8, 9, 10, 11, 12, 13, 20, 27, 29, 32, 40, 45, 48, 49, 56, 66, 74, 82, 89] rfl rfl ?_
  repeat (first | refine Run.seq ?_ | refine Run.skip ?_ | refine Run.block ?_)
  refine Run.region ?_
  refine O.move rfl rfl ?_
  refine O.lend (ln := lnD) c1 rfl rfl rfl (.inl rfl) (by repeat (first | exact BxIn.nil | refine BxIn.cons rfl ?_)) rfl rfl rfl rfl rfl rfl rfl rfl rfl rfl ?_
  refine O.move rfl rfl ?_
  refine O.extract rfl rfl rfl ?_
  refine O.extract rfl rfl rfl ?_
  refine O.assign rfl rfl ?_
  refine O.assign rfl rfl ?_
  refine O.nil ?_
  try refine Run.keep [0, 2, 3, 4, 5, 6, 7, 8, 9, 10, 11, 12, 13, 20, 27, 29, 32, 40, 45, 48, 49, 56, 66, 74, 82, 89] rfl rfl ?_
  repeat (first | refine Run.seq ?_ | refine Run.skip ?_ | refine Run.block ?_)
  refine Run.region ?_
  refine O.move rfl rfl ?_
  refine O.un rfl rfl rfl rfl rfl ?_
  refine O.nil ?_
  try refine Run.keep [0, 2, 3, 4, 5, 6, 7, 8, 9, 10, 11, 12, 13, 20, 27, 29, 32, 40, 45, 48, 49, 56, 66, 74, 82, 89] rfl rfl ?_
  repeat (first | refine Run.seq ?_ | refine Run.skip ?_)
  first | refine Run.condT rfl rfl ?_ | refine Run.condF rfl rfl ?_ | refine Run.condT rfl (by assumption) ?_ | refine Run.condF rfl (by assumption) ?_
  repeat (first | refine Run.seq ?_ | refine Run.skip ?_ | refine Run.block ?_)
  refine Run.region ?_
  refine O.move rfl rfl ?_
  refine O.conv hE T5 T3 rfl rfl rfl ?_; rw [e1]
  refine O.ar rfl rfl rfl e2 rfl ?_
  refine O.build hE T60 L60 rfl rfl rfl ?_
  refine O.alloc hE 6 T60 rfl rfl rfl ?_
  refine O.store hE T60 rfl rfl rfl rfl rfl rfl ?_
  refine O.nil ?_
  try refine Run.keep [0, 2, 3, 4, 5, 6, 7, 8, 9, 10, 11, 12, 13, 20, 27, 29, 32, 40, 45, 48, 49, 56, 66, 74, 82, 89] rfl rfl ?_
  repeat (first | refine Run.seq ?_ | refine Run.skip ?_ | refine Run.block ?_)
  refine Run.region ?_
  refine O.field hE L60 rfl rfl rfl rfl ?_
  first | refine O.loadS hE T3 rfl rfl rfl (by rfl) rfl ?_ | refine O.loadE hE T3 rfl rfl (by rfl) rfl ?_ | refine O.load hE T3 rfl rfl rfl rfl ?_
  refine O.nil ?_
  try refine Run.keep [0, 2, 3, 4, 5, 6, 7, 8, 9, 10, 11, 12, 13, 20, 27, 29, 32, 40, 45, 48, 49, 56, 66, 74, 82, 89] rfl rfl ?_
  repeat (first | refine Run.seq ?_ | refine Run.skip ?_ | refine Run.block ?_)
  refine Run.region ?_
  refine O.cmp (c' := false) rfl rfl rfl (by simpa using k0) rfl ?_
  refine O.assign rfl rfl ?_
  refine O.nil ?_
  try refine Run.keep [0, 2, 3, 4, 5, 6, 7, 8, 9, 10, 11, 12, 13, 20, 27, 29, 32, 40, 45, 48, 49, 56, 66, 74, 82, 89] rfl rfl ?_
  repeat (first | refine Run.seq ?_ | refine Run.skip ?_)
  first | refine Run.condT rfl rfl ?_ | refine Run.condF rfl rfl ?_ | refine Run.condT rfl (by assumption) ?_ | refine Run.condF rfl (by assumption) ?_
  repeat (first | refine Run.seq ?_ | refine Run.skip ?_ | refine Run.block ?_)
  refine Run.region ?_
  refine O.cmp (c' := false) rfl rfl rfl (by simpa using k1) rfl ?_
  refine O.assign rfl rfl ?_
  refine O.nil ?_
  try refine Run.keep [0, 2, 3, 4, 5, 6, 7, 8, 9, 10, 11, 12, 13, 20, 27, 29, 32, 40, 45, 48, 49, 56, 66, 74, 82, 89] rfl rfl ?_
  repeat (first | refine Run.seq ?_ | refine Run.skip ?_)
  first | refine Run.condT rfl rfl ?_ | refine Run.condF rfl rfl ?_ | refine Run.condT rfl (by assumption) ?_ | refine Run.condF rfl (by assumption) ?_
  repeat (first | refine Run.seq ?_ | refine Run.skip ?_ | refine Run.block ?_)
  refine Run.region ?_
  refine O.cmp (c' := false) rfl rfl rfl (by simpa using k2) rfl ?_
  refine O.assign rfl rfl ?_
  refine O.nil ?_
  try refine Run.keep [0, 2, 3, 4, 5, 6, 7, 8, 9, 10, 11, 12, 13, 20, 27, 29, 32, 40, 45, 48, 49, 56, 66, 74, 82, 89] rfl rfl ?_
  repeat (first | refine Run.seq ?_ | refine Run.skip ?_)
  first | refine Run.condT rfl rfl ?_ | refine Run.condF rfl rfl ?_ | refine Run.condT rfl (by assumption) ?_ | refine Run.condF rfl (by assumption) ?_
  repeat (first | refine Run.seq ?_ | refine Run.skip ?_ | refine Run.block ?_)
  refine Run.region ?_
  refine O.cmp (c' := false) rfl rfl rfl (by simpa using k3) rfl ?_
  refine O.assign rfl rfl ?_
  refine O.nil ?_
  try refine Run.keep [0, 2, 3, 4, 5, 6, 7, 8, 9, 10, 11, 12, 13, 20, 27, 29, 32, 40, 45, 48, 49, 56, 66, 74, 82, 89] rfl rfl ?_
  repeat (first | refine Run.seq ?_ | refine Run.skip ?_)
  first | refine Run.condT rfl rfl ?_ | refine Run.condF rfl rfl ?_ | refine Run.condT rfl (by assumption) ?_ | refine Run.condF rfl (by assumption) ?_
  repeat (first | refine Run.seq ?_ | refine Run.skip ?_ | refine Run.block ?_)
  refine Run.region ?_
  refine O.cmp (c' := false) rfl rfl rfl (by simpa using k4) rfl ?_
  refine O.assign rfl rfl ?_
  refine O.nil ?_
  try refine Run.keep [0, 2, 3, 4, 5, 6, 7, 8, 9, 10, 11, 12, 13, 20, 27, 29, 32, 40, 45, 48, 49, 56, 66, 74, 82, 89] rfl rfl ?_
  repeat (first | refine Run.seq ?_ | refine Run.skip ?_)
  first | refine Run.condT rfl rfl ?_ | refine Run.condF rfl rfl ?_ | refine Run.condT rfl (by assumption) ?_ | refine Run.condF rfl (by assumption) ?_
  repeat (first | refine Run.seq ?_ | refine Run.skip ?_ | refine Run.block ?_)
  refine Run.region ?_
  refine O.build hE T60 L60 rfl rfl rfl ?_
  refine O.store hE T60 rfl rfl rfl rfl rfl rfl ?_
  refine O.assign rfl rfl ?_
  refine O.nil ?_
  try refine Run.keep [0, 2, 3, 4, 5, 6, 7, 8, 9, 10, 11, 12, 13, 20, 27, 29, 32, 40, 45, 48, 49, 56, 66, 74, 82, 89] rfl rfl ?_
  refine Run.ret ?_
  repeat (first | refine thenR_ret ?_ | refine roundR_ret ?_ | refine blockR_ret ?_)
  exact Ends.of hE (.inr rfl) rfl rfl (SLe.drop (by repeat (first | exact TmIn.nil | refine TmIn.cons rfl ?_)) (by repeat (first | exact BxIn.nil | refine BxIn.cons rfl ?_)) rfl rfl)
theorem bad_bool {b s : List Int} {p : Nat} {B : Bool} {c : Int} (hb : b.length ≤ 9223372036854775807) (h : b.drop p = (2 :: c :: s).map (flipB B)) (h8 : 0 ≤ c ∧ c < 256) (h0 : c ≠ 0) (h1 : c ≠ 1) : ReadBad g b p B := by
  refine ⟨3, p + 1 + 1, by decide, ?_⟩
  have hE := EnLOk g lnD
  have c1 := next_fit (g := g) (i := 0) (rest := []) hb (by rw [h, List.append_nil]) rfl (by omega)
  have c2 := next_fit (g := g) (i := 1) (rest := []) hb (by rw [h, List.append_nil]) rfl h8
  have c3 := (check_bool (g := g) h0 h1).lent lnD
  dsimp only [vlA] at c3
  rw [Nat.add_zero] at c1
  have hcv : IntKind.i64.wrap c = c := wrap_i64 (by omega) (by omega)
  generalize flB B = fl at *
  clear h
  refine FnL.of Tryd.func30 rfl rfl rfl rfl ?_
  repeat (first | refine Run.seq ?_ | refine Run.skip ?_ | refine Run.block ?_)
  refine Run.region ?_
  refine O.alloc hE 2 T60 rfl rfl rfl ?_
  refine O.assign rfl rfl ?_
  refine O.nil ?_
  try refine Run.keep [0, 2, 3, 4, 5, 6, 7, 8, 9, 10, 11, 12, 13, 20, 27, 29, 32, 40, 45, 48, 49, 56, 66, 74, 82, 89] rfl rfl ?_
  repeat (first | refine Run.seq ?_ | refine Run.skip ?_ | refine Run.block ?_)
  refine Run.region ?_
  refine O.move rfl rfl ?_
  refine O.lend (ln := lnD) c1 rfl rfl rfl (.inl rfl) (by repeat (first | exact BxIn.nil | refine BxIn.cons rfl ?_)) rfl rfl rfl rfl rfl rfl rfl rfl rfl rfl ?_
  refine O.move rfl rfl ?_
  refine O.extract rfl rfl rfl ?_
  refine O.extract rfl rfl rfl ?_
  refine O.assign rfl rfl ?_
  refine O.assign rfl rfl ?_
  refine O.nil ?_
  try refine Run.keep [0, 2, 3, 4, 5, 6, 7, 8, 9, 10, 11, 12, 13, 20, 27, 29, 32, 40, 45, 48, 49, 56, 66, 74, 82, 89] rfl rfl ?_
  repeat (first | refine Run.seq ?_ | refine Run.skip ?_ | refine Run.block ?_)
  refine Run.region ?_
  refine O.move rfl rfl ?_
  refine O.un rfl rfl rfl rfl rfl ?_
  refine O.nil ?_
  try refine Run.keep [0, 2, 3, 4, 5, 6, 7, 8, 9, 10, 11, 12, 13, 20, 27, 29, 32, 40, 45, 48, 49, 56, 66, 74, 82, 89] rfl rfl ?_
  repeat (first | refine Run.seq ?_ | refine Run.skip ?_)
  first | refine Run.condT rfl rfl ?_ | refine Run.condF rfl rfl ?_ | refine Run.condT rfl (by assumption) ?_ | refine Run.condF rfl (by assumption) ?_
  repeat (first | refine Run.seq ?_ | refine Run.skip ?_ | refine Run.block ?_)
  refine Run.region ?_
  refine O.move rfl rfl ?_
  refine O.conv hE T5 T3 rfl rfl rfl ?_
  first | refine O.ar rfl rfl rfl (by exact wrap_i64 (by omega) (by omega)) rfl ?_ | refine O.ar rfl rfl rfl rfl rfl ?_
  refine O.build hE T60 L60 rfl rfl rfl ?_
  refine O.alloc hE 6 T60 rfl rfl rfl ?_
  refine O.store hE T60 rfl rfl rfl rfl rfl rfl ?_
  refine O.nil ?_
  try refine Run.keep [0, 2, 3, 4, 5, 6, 7, 8, 9, 10, 11, 12, 13, 20, 27, 29, 32, 40, 45, 48, 49, 56, 66, 74, 82, 89] rfl rfl ?_
  repeat (first | refine Run.seq ?_ | refine Run.skip ?_ | refine Run.block ?_)
  refine Run.region ?_
  refine O.field hE L60 rfl rfl rfl rfl ?_
  first | refine O.loadS hE T3 rfl rfl rfl (by rfl) rfl ?_ | refine O.loadE hE T3 rfl rfl (by rfl) rfl ?_ | refine O.load hE T3 rfl rfl rfl rfl ?_
  refine O.nil ?_
  try refine Run.keep [0, 2, 3, 4, 5, 6, 7, 8, 9, 10, 11, 12, 13, 20, 27, 29, 32, 40, 45, 48, 49, 56, 66, 74, 82, 89] rfl rfl ?_
  repeat (first | refine Run.seq ?_ | refine Run.skip ?_ | refine Run.block ?_)
  refine Run.region ?_
  first | refine O.cmp rfl rfl rfl (by first | exact decide_eq_true (by omega) | exact decide_eq_false (by omega)) rfl ?_ | refine O.cmp rfl rfl rfl rfl rfl ?_
  refine O.assign rfl rfl ?_
  refine O.nil ?_
  try refine Run.keep [0, 2, 3, 4, 5, 6, 7, 8, 9, 10, 11, 12, 13, 20, 27, 29, 32, 40, 45, 48, 49, 56, 66, 74, 82, 89] rfl rfl ?_
  repeat (first | refine Run.seq ?_ | refine Run.skip ?_)
  first | refine Run.condT rfl rfl ?_ | refine Run.condF rfl rfl ?_ | refine Run.condT rfl (by assumption) ?_ | refine Run.condF rfl (by assumption) ?_
  repeat (first | refine Run.seq ?_ | refine Run.skip ?_ | refine Run.block ?_)
  refine Run.region ?_
  first | refine O.cmp rfl rfl rfl (by first | exact decide_eq_true (by omega) | exact decide_eq_false (by omega)) rfl ?_ | refine O.cmp rfl rfl rfl rfl rfl ?_
  refine O.assign rfl rfl ?_
  refine O.nil ?_
  try refine Run.keep [0, 2, 3, 4, 5, 6, 7, 8, 9, 10, 11, 12, 13, 20, 27, 29, 32, 40, 45, 48, 49, 56, 66, 74, 82, 89] rfl rfl ?_
  repeat (first | refine Run.seq ?_ | refine Run.skip ?_)
  first | refine Run.condT rfl rfl ?_ | refine Run.condF rfl rfl ?_ | refine Run.condT rfl (by assumption) ?_ | refine Run.condF rfl (by assumption) ?_
  repeat (first | refine Run.seq ?_ | refine Run.skip ?_ | refine Run.block ?_)
  refine Run.region ?_
  refine O.move rfl rfl ?_
  refine O.lend (ln := lnD) c2 rfl rfl rfl (.inl rfl) (by repeat (first | exact BxIn.nil | refine BxIn.cons rfl ?_)) rfl rfl rfl rfl rfl rfl rfl rfl rfl rfl ?_
  refine O.move rfl rfl ?_
  refine O.extract rfl rfl rfl ?_
  refine O.extract rfl rfl rfl ?_
  refine O.assign rfl rfl ?_
  refine O.assign rfl rfl ?_
  refine O.nil ?_
  try refine Run.keep [0, 2, 3, 4, 5, 6, 7, 8, 9, 10, 11, 12, 13, 20, 27, 29, 32, 40, 45, 48, 49, 56, 66, 74, 82, 89] rfl rfl ?_
  repeat (first | refine Run.seq ?_ | refine Run.skip ?_ | refine Run.block ?_)
  refine Run.region ?_
  refine O.move rfl rfl ?_
  refine O.un rfl rfl rfl rfl rfl ?_
  refine O.nil ?_
  try refine Run.keep [0, 2, 3, 4, 5, 6, 7, 8, 9, 10, 11, 12, 13, 20, 27, 29, 32, 40, 45, 48, 49, 56, 66, 74, 82, 89] rfl rfl ?_
  repeat (first | refine Run.seq ?_ | refine Run.skip ?_)
  first | refine Run.condT rfl rfl ?_ | refine Run.condF rfl rfl ?_ | refine Run.condT rfl (by assumption) ?_ | refine Run.condF rfl (by assumption) ?_
  repeat (first | refine Run.seq ?_ | refine Run.skip ?_ | refine Run.block ?_)
  refine Run.region ?_
  refine O.move rfl rfl ?_
  refine O.conv hE T5 T3 rfl rfl rfl ?_; rw [hcv]
  refine O.field hE L60 rfl rfl rfl rfl ?_
  refine O.store hE T3 rfl rfl rfl rfl rfl rfl ?_
  refine O.nil ?_
  try refine Run.keep [0, 2, 3, 4, 5, 6, 7, 8, 9, 10, 11, 12, 13, 20, 27, 29, 32, 40, 45, 48, 49, 56, 66, 74, 82, 89] rfl rfl ?_
  repeat (first | refine Run.seq ?_ | refine Run.skip ?_ | refine Run.block ?_)
  refine Run.region ?_
  refine O.load hE T60 rfl rfl rfl rfl ?_
  refine O.callE c3 rfl (by first | rfl | simp [closed, men3, mens2_app, mens2_ints, mens2, men2, men1, mens1_app, mens1_ints, mens1]) (by first | rfl | simp [d2, ds1_ints, ds1_app, ds1, d1, ds0_app, ds0_ints, ds0, d0]) rfl ?_
  first | refine O.cmp rfl rfl rfl (by first | exact decide_eq_true (by omega) | exact decide_eq_false (by omega)) rfl ?_ | refine O.cmp rfl rfl rfl rfl rfl ?_
  refine O.nil ?_
  try refine Run.keep [0, 2, 3, 4, 5, 6, 7, 8, 9, 10, 11, 12, 13, 20, 27, 29, 32, 40, 45, 48, 49, 56, 66, 74, 82, 89] rfl rfl ?_
  repeat (first | refine Run.seq ?_ | refine Run.skip ?_)
  first | refine Run.condT rfl rfl ?_ | refine Run.condF rfl rfl ?_ | refine Run.condT rfl (by assumption) ?_ | refine Run.condF rfl (by assumption) ?_
  repeat (first | refine Run.seq ?_ | refine Run.skip ?_ | refine Run.block ?_)
  refine Run.region ?_
  refine O.build hE T60 L60 rfl rfl rfl ?_
  refine O.store hE T60 rfl rfl rfl rfl rfl rfl ?_
  refine O.assign rfl rfl ?_
  refine O.nil ?_
  try refine Run.keep [0, 2, 3, 4, 5, 6, 7, 8, 9, 10, 11, 12, 13, 20, 27, 29, 32, 40, 45, 48, 49, 56, 66, 74, 82, 89] rfl rfl ?_
  refine Run.ret ?_
  repeat (first | refine thenR_ret ?_ | refine roundR_ret ?_ | refine blockR_ret ?_)
  exact Ends.of hE (.inr rfl) rfl rfl (SLe.drop (by repeat (first | exact TmIn.nil | refine TmIn.cons rfl ?_)) (by repeat (first | exact BxIn.nil | refine BxIn.cons rfl ?_)) rfl rfl)
theorem bad_real {b s : List Int} {p : Nat} {B : Bool} {N : Nat} (hb : b.length ≤ 9223372036854775807) (h : b.drop p = (4 :: (eightU N ++ s)).map (flipB B)) (hNl : N < 18446744073709551616) (hf : ¬ FinW (backU N)) : ReadBad g b p B := by
  refine ⟨3, p + 9, by decide, ?_⟩
  have hE := EnLOk g lnD
  have h' : b.drop p = (4 :: eightU N).map (flipB B) ++ s.map (flipB B) := by rw [h]; simp
  have c1 := next_fit (g := g) (i := 0) hb h' rfl (by omega)
  have cb := (fnBack (g := g) N hNl).lent lnD
  have hbl : backU N < 18446744073709551616 := by unfold backU; split <;> omega
  have c3 := (check_real (g := g) hbl hf).lent lnD
  dsimp only [vlA] at c3
  rw [Nat.add_zero] at c1
  have c2 : ∀ j, j < 8 → FnL (EnL Tryd.prog g lnD) 29 [.ptr 8 0, .ptr 3 0, .ptr 9 0] (bD b (p + 1 + j) (flB B)) (.tup [.pv (.int .u8 ((N / 2 ^ (56 - 8 * j) % 256 : Nat) : Int)), .pv (.bool true)]) (bD b (p + 1 + (j + 1)) (flB B)) := fun j hj => by
    have := next_fit (g := g) (i := j + 1) hb h' (eightU_at N hj) (by omega)
    rwa [show p + (j + 1) = p + 1 + j by omega, show p + 1 + j + 1 = p + 1 + (j + 1) by omega] at this
  clear h'
  generalize backU N = n at *
  generalize flB B = fl at *
  clear h
  refine FnL.of Tryd.func30 rfl rfl rfl rfl ?_
  repeat (first | refine Run.seq ?_ | refine Run.skip ?_ | refine Run.block ?_)
  refine Run.region ?_
  refine O.alloc hE 2 T60 rfl rfl rfl ?_
  refine O.assign rfl rfl ?_
  refine O.nil ?_
  try refine Run.keep [0, 2, 3, 4, 5, 6, 7, 8, 9, 10, 11, 12, 13, 20, 27, 29, 32, 40, 45, 48, 49, 56, 66, 74, 82, 89] rfl rfl ?_
  repeat (first | refine Run.seq ?_ | refine Run.skip ?_ | refine Run.block ?_)
  refine Run.region ?_
  refine O.move rfl rfl ?_
  refine O.lend (ln := lnD) c1 rfl rfl rfl (.inl rfl) (by repeat (first | exact BxIn.nil | refine BxIn.cons rfl ?_)) rfl rfl rfl rfl rfl rfl rfl rfl rfl rfl ?_
  refine O.move rfl rfl ?_
  refine O.extract rfl rfl rfl ?_
  refine O.extract rfl rfl rfl ?_
  refine O.assign rfl rfl ?_
  refine O.assign rfl rfl ?_
  refine O.nil ?_
  try refine Run.keep [0, 2, 3, 4, 5, 6, 7, 8, 9, 10, 11, 12, 13, 20, 27, 29, 32, 40, 45, 48, 49, 56, 66, 74, 82, 89] rfl rfl ?_
  repeat (first | refine Run.seq ?_ | refine Run.skip ?_ | refine Run.block ?_)
  refine Run.region ?_
  refine O.move rfl rfl ?_
  refine O.un rfl rfl rfl rfl rfl ?_
  refine O.nil ?_
  try refine Run.keep [0, 2, 3, 4, 5, 6, 7, 8, 9, 10, 11, 12, 13, 20, 27, 29, 32, 40, 45, 48, 49, 56, 66, 74, 82, 89] rfl rfl ?_
  repeat (first | refine Run.seq ?_ | refine Run.skip ?_)
  first | refine Run.condT rfl rfl ?_ | refine Run.condF rfl rfl ?_ | refine Run.condT rfl (by assumption) ?_ | refine Run.condF rfl (by assumption) ?_
  repeat (first | refine Run.seq ?_ | refine Run.skip ?_ | refine Run.block ?_)
  refine Run.region ?_
  refine O.move rfl rfl ?_
  refine O.conv hE T5 T3 rfl rfl rfl ?_
  first | refine O.ar rfl rfl rfl (by exact wrap_i64 (by omega) (by omega)) rfl ?_ | refine O.ar rfl rfl rfl rfl rfl ?_
  refine O.build hE T60 L60 rfl rfl rfl ?_
  refine O.alloc hE 6 T60 rfl rfl rfl ?_
  refine O.store hE T60 rfl rfl rfl rfl rfl rfl ?_
  refine O.nil ?_
  try refine Run.keep [0, 2, 3, 4, 5, 6, 7, 8, 9, 10, 11, 12, 13, 20, 27, 29, 32, 40, 45, 48, 49, 56, 66, 74, 82, 89] rfl rfl ?_
  repeat (first | refine Run.seq ?_ | refine Run.skip ?_ | refine Run.block ?_)
  refine Run.region ?_
  refine O.field hE L60 rfl rfl rfl rfl ?_
  first | refine O.loadS hE T3 rfl rfl rfl (by rfl) rfl ?_ | refine O.loadE hE T3 rfl rfl (by rfl) rfl ?_ | refine O.load hE T3 rfl rfl rfl rfl ?_
  refine O.nil ?_
  try refine Run.keep [0, 2, 3, 4, 5, 6, 7, 8, 9, 10, 11, 12, 13, 20, 27, 29, 32, 40, 45, 48, 49, 56, 66, 74, 82, 89] rfl rfl ?_
  repeat (first | refine Run.seq ?_ | refine Run.skip ?_ | refine Run.block ?_)
  refine Run.region ?_
  first | refine O.cmp rfl rfl rfl (by first | exact decide_eq_true (by omega) | exact decide_eq_false (by omega)) rfl ?_ | refine O.cmp rfl rfl rfl rfl rfl ?_
  refine O.assign rfl rfl ?_
  refine O.nil ?_
  try refine Run.keep [0, 2, 3, 4, 5, 6, 7, 8, 9, 10, 11, 12, 13, 20, 27, 29, 32, 40, 45, 48, 49, 56, 66, 74, 82, 89] rfl rfl ?_
  repeat (first | refine Run.seq ?_ | refine Run.skip ?_)
  first | refine Run.condT rfl rfl ?_ | refine Run.condF rfl rfl ?_ | refine Run.condT rfl (by assumption) ?_ | refine Run.condF rfl (by assumption) ?_
  repeat (first | refine Run.seq ?_ | refine Run.skip ?_ | refine Run.block ?_)
  refine Run.region ?_
  first | refine O.cmp rfl rfl rfl (by first | exact decide_eq_true (by omega) | exact decide_eq_false (by omega)) rfl ?_ | refine O.cmp rfl rfl rfl rfl rfl ?_
  refine O.assign rfl rfl ?_
  refine O.nil ?_
  try refine Run.keep [0, 2, 3, 4, 5, 6, 7, 8, 9, 10, 11, 12, 13, 20, 27, 29, 32, 40, 45, 48, 49, 56, 66, 74, 82, 89] rfl rfl ?_
  repeat (first | refine Run.seq ?_ | refine Run.skip ?_)
  first | refine Run.condT rfl rfl ?_ | refine Run.condF rfl rfl ?_ | refine Run.condT rfl (by assumption) ?_ | refine Run.condF rfl (by assumption) ?_
  repeat (first | refine Run.seq ?_ | refine Run.skip ?_ | refine Run.block ?_)
  refine Run.region ?_
  first | refine O.cmp rfl rfl rfl (by first | exact decide_eq_true (by omega) | exact decide_eq_false (by omega)) rfl ?_ | refine O.cmp rfl rfl rfl rfl rfl ?_
  refine O.assign rfl rfl ?_
  refine O.nil ?_
  try refine Run.keep [0, 2, 3, 4, 5, 6, 7, 8, 9, 10, 11, 12, 13, 20, 27, 29, 32, 40, 45, 48, 49, 56, 66, 74, 82, 89] rfl rfl ?_
  repeat (first | refine Run.seq ?_ | refine Run.skip ?_)
  first | refine Run.condT rfl rfl ?_ | refine Run.condF rfl rfl ?_ | refine Run.condT rfl (by assumption) ?_ | refine Run.condF rfl (by assumption) ?_
  repeat (first | refine Run.seq ?_ | refine Run.skip ?_ | refine Run.block ?_)
  refine Run.region ?_
  first | refine O.cmp rfl rfl rfl (by first | exact decide_eq_true (by omega) | exact decide_eq_false (by omega)) rfl ?_ | refine O.cmp rfl rfl rfl rfl rfl ?_
  refine O.assign rfl rfl ?_
  refine O.nil ?_
  try refine Run.keep [0, 2, 3, 4, 5, 6, 7, 8, 9, 10, 11, 12, 13, 20, 27, 29, 32, 40, 45, 48, 49, 56, 66, 74, 82, 89] rfl rfl ?_
  repeat (first | refine Run.seq ?_ | refine Run.skip ?_)
  first | refine Run.condT rfl rfl ?_ | refine Run.condF rfl rfl ?_ | refine Run.condT rfl (by assumption) ?_ | refine Run.condF rfl (by assumption) ?_
  repeat (first | refine Run.seq ?_ | refine Run.skip ?_ | refine Run.block ?_)
  refine Run.region ?_
  refine O.assign rfl rfl ?_
  refine O.nil ?_
  try refine Run.keep [0, 2, 3, 4, 5, 6, 7, 8, 9, 10, 11, 12, 13, 20, 27, 29, 32, 40, 45, 48, 49, 56, 66, 74, 82, 89] rfl rfl ?_
  repeat (first | refine Run.seq ?_ | refine Run.skip ?_ | refine Run.block ?_)
  refine Run.region ?_
  refine O.move rfl rfl ?_
  refine O.nil ?_
  try refine Run.keep [0, 2, 3, 4, 5, 6, 7, 8, 9, 10, 11, 12, 13, 20, 27, 29, 32, 40, 45, 48, 49, 56, 66, 74, 82, 89] rfl rfl ?_
  repeat (first | refine Run.seq ?_ | refine Run.skip ?_)
  refine Run.block ?_
  refine Run.loopInv (ι := Nat) (fun j => j ≤ 8) (fun j => ⟨92, [(0, cloD), (2, .ptr 2 0), (6, .ptr 6 0), (9, .pv (.int .u64 ((N / 2 ^ (64 - 8 * j) : Nat) : Int))), (48, .pv (.int .i64 (j : Int)))], [(8, .var [.pv (.int .i64 ((p + 1 + j : Nat) : Int))]), (3, .var [.pv (byv b)]), (9, .var [.pv (.int .u8 fl)]), (2, .var [.pv (.int .i64 0), .pv (.int .i64 0), .pv (.int .u64 0), .pv (.str ⟨#[]⟩)]), (6, .var [.pv (.int .i64 3), .pv (.int .i64 0), .pv (.int .u64 0), .pv (.str ⟨#[]⟩)])]⟩) (fun j => 8 - j) 0 (by omega) ?_ ?_
  ·
    have e0 := div64 N hNl
    rw [e0]
    exact (SLe.drop (by repeat (first | exact TmIn.nil | refine TmIn.cons rfl ?_)) (by repeat (first | exact BxIn.nil | refine BxIn.cons rfl ?_)) rfl rfl)
  rintro j hj ih
  by_cases hlt : j < 8
  ·
    have cn := c2 j hlt
    have e1 := eight_step N hlt
    have e2 := eight_lt N hNl hlt
    have e3 : N / 2 ^ (56 - 8 * j) % 256 < 256 := Nat.mod_lt _ (by decide)
    generalize N / 2 ^ (56 - 8 * j) % 256 = q at *
    have hs := shl8 e2
    have hor := or_low e2 e3
    have hcv := wr64V (n := q) (by omega)
    generalize N / 2 ^ (64 - 8 * j) = X at *
    repeat (first | refine Run.seq ?_ | refine Run.skip ?_ | refine Run.block ?_)
    refine Run.region ?_
    first | refine O.cmp rfl rfl rfl (by first | exact decide_eq_true (by omega) | exact decide_eq_false (by omega)) rfl ?_ | refine O.cmp rfl rfl rfl rfl rfl ?_
    refine O.nil ?_
    try refine Run.keep [0, 2, 3, 4, 5, 6, 7, 8, 9, 10, 11, 12, 13, 20, 27, 29, 32, 40, 45, 48, 49, 56, 66, 74, 82, 89] rfl rfl ?_
    repeat (first | refine Run.seq ?_ | refine Run.skip ?_)
    first | refine Run.condT rfl rfl ?_ | refine Run.condF rfl rfl ?_ | refine Run.condT rfl (by assumption) ?_ | refine Run.condF rfl (by assumption) ?_
    repeat (first | refine Run.seq ?_ | refine Run.skip ?_ | refine Run.block ?_)
    refine Run.region ?_
    refine O.move rfl rfl ?_
    refine O.lend (ln := lnD) cn rfl rfl rfl (.inl rfl) (by repeat (first | exact BxIn.nil | refine BxIn.cons rfl ?_)) rfl rfl rfl rfl rfl rfl rfl rfl rfl rfl ?_
    refine O.move rfl rfl ?_
    refine O.extract rfl rfl rfl ?_
    refine O.extract rfl rfl rfl ?_
    refine O.assign rfl rfl ?_
    refine O.assign rfl rfl ?_
    refine O.nil ?_
    try refine Run.keep [0, 2, 3, 4, 5, 6, 7, 8, 9, 10, 11, 12, 13, 20, 27, 29, 32, 40, 45, 48, 49, 56, 66, 74, 82, 89] rfl rfl ?_
    repeat (first | refine Run.seq ?_ | refine Run.skip ?_ | refine Run.block ?_)
    refine Run.region ?_
    refine O.move rfl rfl ?_
    refine O.un rfl rfl rfl rfl rfl ?_
    refine O.nil ?_
    try refine Run.keep [0, 2, 3, 4, 5, 6, 7, 8, 9, 10, 11, 12, 13, 20, 27, 29, 32, 40, 45, 48, 49, 56, 66, 74, 82, 89] rfl rfl ?_
    repeat (first | refine Run.seq ?_ | refine Run.skip ?_)
    first | refine Run.condT rfl rfl ?_ | refine Run.condF rfl rfl ?_ | refine Run.condT rfl (by assumption) ?_ | refine Run.condF rfl (by assumption) ?_
    repeat (first | refine Run.seq ?_ | refine Run.skip ?_ | refine Run.block ?_)
    refine Run.region ?_
    refine O.move rfl rfl ?_
    refine O.shl rfl rfl (by omega) rfl ?_; rw [hs]
    refine O.move rfl rfl ?_
    refine O.conv hE T5 T58 rfl rfl rfl ?_; rw [hcv]
    refine O.bit rfl rfl hor rfl ?_
    refine O.assign rfl rfl ?_
    refine O.nil ?_
    try refine Run.keep [0, 2, 3, 4, 5, 6, 7, 8, 9, 10, 11, 12, 13, 20, 27, 29, 32, 40, 45, 48, 49, 56, 66, 74, 82, 89] rfl rfl ?_
    repeat (first | refine Run.seq ?_ | refine Run.skip ?_ | refine Run.block ?_)
    refine Run.region ?_
    first | refine O.ar rfl rfl rfl (by exact wrap_i64 (by omega) (by omega)) rfl ?_ | refine O.ar rfl rfl rfl rfl rfl ?_
    refine O.move rfl rfl ?_
    refine O.nil ?_
    try refine Run.keep [0, 2, 3, 4, 5, 6, 7, 8, 9, 10, 11, 12, 13, 20, 27, 29, 32, 40, 45, 48, 49, 56, 66, 74, 82, 89] rfl rfl ?_
    refine ih (j + 1) _ ?_ (by omega) (by omega)
    rw [e1]
    exact (SLe.drop (by repeat (first | exact TmIn.nil | refine TmIn.cons rfl ?_)) (by repeat (first | exact BxIn.nil | refine BxIn.cons rfl ?_)) rfl rfl)
  obtain rfl : j = 8 := by omega
  rw [show N / 2 ^ (64 - 8 * 8) = N by rw [show 64 - 8 * 8 = 0 by decide, Nat.pow_zero, Nat.div_one]]
  repeat (first | refine Run.seq ?_ | refine Run.skip ?_ | refine Run.block ?_)
  refine Run.region ?_
  first | refine O.cmp rfl rfl rfl (by first | exact decide_eq_true (by omega) | exact decide_eq_false (by omega)) rfl ?_ | refine O.cmp rfl rfl rfl rfl rfl ?_
  refine O.nil ?_
  try refine Run.keep [0, 2, 3, 4, 5, 6, 7, 8, 9, 10, 11, 12, 13, 20, 27, 29, 32, 40, 45, 48, 49, 56, 66, 74, 82, 89] rfl rfl ?_
  repeat (first | refine Run.seq ?_ | refine Run.skip ?_)
  first | refine Run.condT rfl rfl ?_ | refine Run.condF rfl rfl ?_ | refine Run.condT rfl (by assumption) ?_ | refine Run.condF rfl (by assumption) ?_
  refine Run.exit ?_
  repeat (first | refine thenR_exit ?_ | refine roundR_exit ?_ | refine blockR_exit ?_ | refine blockR_pass rfl ?_)
  repeat (first | refine Run.seq ?_ | refine Run.skip ?_ | refine Run.block ?_)
  refine Run.region ?_
  refine O.field hE L60 rfl rfl rfl rfl ?_
  first | refine O.loadS hE T3 rfl rfl rfl (by rfl) rfl ?_ | refine O.loadE hE T3 rfl rfl (by rfl) rfl ?_ | refine O.load hE T3 rfl rfl rfl rfl ?_
  first | refine O.cmp rfl rfl rfl (by first | exact decide_eq_true (by omega) | exact decide_eq_false (by omega)) rfl ?_ | refine O.cmp rfl rfl rfl rfl rfl ?_
  refine O.nil ?_
  try refine Run.keep [0, 2, 3, 4, 5, 6, 7, 8, 9, 10, 11, 12, 13, 20, 27, 29, 32, 40, 45, 48, 49, 56, 66, 74, 82, 89] rfl rfl ?_
  repeat (first | refine Run.seq ?_ | refine Run.skip ?_)
  first | refine Run.condT rfl rfl ?_ | refine Run.condF rfl rfl ?_ | refine Run.condT rfl (by assumption) ?_ | refine Run.condF rfl (by assumption) ?_
  repeat (first | refine Run.seq ?_ | refine Run.skip ?_ | refine Run.block ?_)
  refine Run.region ?_
  refine O.move rfl rfl ?_
  refine O.callE cb rfl (by first | rfl | simp [closed, men3, mens2_app, mens2_ints, mens2, men2, men1, mens1_app, mens1_ints, mens1]) (by first | rfl | simp [d2, ds1_ints, ds1_app, ds1, d1, ds0_app, ds0_ints, ds0, d0]) rfl ?_
  refine O.field hE L60 rfl rfl rfl rfl ?_
  refine O.store hE T58 rfl rfl rfl rfl rfl rfl ?_
  refine O.nil ?_
  try refine Run.keep [0, 2, 3, 4, 5, 6, 7, 8, 9, 10, 11, 12, 13, 20, 27, 29, 32, 40, 45, 48, 49, 56, 66, 74, 82, 89] rfl rfl ?_
  repeat (first | refine Run.seq ?_ | refine Run.skip ?_ | refine Run.block ?_)
  refine Run.region ?_
  refine O.load hE T60 rfl rfl rfl rfl ?_
  refine O.callE c3 rfl (by first | rfl | simp [closed, men3, mens2_app, mens2_ints, mens2, men2, men1, mens1_app, mens1_ints, mens1]) (by first | rfl | simp [d2, ds1_ints, ds1_app, ds1, d1, ds0_app, ds0_ints, ds0, d0]) rfl ?_
  first | refine O.cmp rfl rfl rfl (by first | exact decide_eq_true (by omega) | exact decide_eq_false (by omega)) rfl ?_ | refine O.cmp rfl rfl rfl rfl rfl ?_
  refine O.nil ?_
  try refine Run.keep [0, 2, 3, 4, 5, 6, 7, 8, 9, 10, 11, 12, 13, 20, 27, 29, 32, 40, 45, 48, 49, 56, 66, 74, 82, 89] rfl rfl ?_
  repeat (first | refine Run.seq ?_ | refine Run.skip ?_)
  first | refine Run.condT rfl rfl ?_ | refine Run.condF rfl rfl ?_ | refine Run.condT rfl (by assumption) ?_ | refine Run.condF rfl (by assumption) ?_
  repeat (first | refine Run.seq ?_ | refine Run.skip ?_ | refine Run.block ?_)
  refine Run.region ?_
  refine O.build hE T60 L60 rfl rfl rfl ?_
  refine O.store hE T60 rfl rfl rfl rfl rfl rfl ?_
  refine O.assign rfl rfl ?_
  refine O.nil ?_
  try refine Run.keep [0, 2, 3, 4, 5, 6, 7, 8, 9, 10, 11, 12, 13, 20, 27, 29, 32, 40, 45, 48, 49, 56, 66, 74, 82, 89] rfl rfl ?_
  refine Run.ret ?_
  repeat (first | refine thenR_ret ?_ | refine roundR_ret ?_ | refine blockR_ret ?_)
  exact Ends.of hE (.inr rfl) rfl rfl (SLe.drop (by repeat (first | exact TmIn.nil | refine TmIn.cons rfl ?_)) (by repeat (first | exact BxIn.nil | refine BxIn.cons rfl ?_)) rfl rfl)
theorem esc_headT {L tail : List Int} {i : Nat} {c : Int} (h : L[i]? = some c) : (esc L ++ tail)[(esc (L.take i)).length]? = some c ∧ (c = 0 → (esc L ++ tail)[(esc (L.take i)).length + 1]? = some 255) ∧ (esc (L.take (i + 1))).length = (esc (L.take i)).length + (if c = 0 then 2 else 1) := by
  have hi := (List.getElem?_eq_some_iff.1 h).1
  have e : esc L = esc (L.take i) ++ esc (c :: L.drop (i + 1)) := by
    conv => lhs; rw [← List.take_append_drop i L]
    rw [esc_append, List.drop_eq_getElem_cons hi]
    rw [List.getElem?_eq_getElem hi] at h
    rw [Option.some.inj h]
  have e2 : L.take (i + 1) = L.take i ++ [c] := by rw [List.take_add_one, h]; rfl
  rw [e, e2, esc_append, List.append_assoc]
  generalize esc (L.take i) = A
  refine ⟨?_, fun hc => ?_, ?_⟩
  · rw [List.getElem?_append_right (Nat.le_refl _), Nat.sub_self]
    unfold esc
    split
    · rename_i h0; rw [h0]; rfl
    · rfl
  · rw [List.getElem?_append_right (by omega), show A.length + 1 - A.length = 1 by omega]
    unfold esc
    rw [if_pos hc]
    rfl
  · rw [List.length_append]
    simp only [esc]
    split <;> rfl
theorem esc_endT {L tail : List Int} {j : Nat} {c : Int} (h : tail[j]? = some c) : (esc L ++ tail)[(esc L).length + j]? = some c := by
  rw [List.getElem?_append_right (by omega), show (esc L).length + j - (esc L).length = j by omega, h]
theorem text_form {s : ByteArray} (hs : s.size ≤ 40) {b r : List Int} {p : Nat} {B : Bool} {d : Int} (hd8 : 0 ≤ d ∧ d < 256) (hd1 : d ≠ 1) (hd2 : d ≠ 255) (hb : b.length ≤ 9223372036854775807) (h : b.drop p = (5 :: (esc (txB s) ++ (0 :: d :: r))).map (flipB B)) :
    FnL (EnL Tryd.prog g lnD) 41 [cloD] (bD b (p + 1) (flB B)) (.tup [.pv (.str ⟨#[]⟩), .pv (.int .i64 3)]) (bD b (p + 1 + (esc (txB s)).length + 2) (flB B)) := by
  have hE := EnLOk g lnD
  have hL8 : ∀ c ∈ txB s, 0 ≤ c ∧ c < 256 := fun c hc => by
    obtain ⟨u, _, rfl⟩ := List.mem_map.1 hc
    have := u.toNat_lt
    omega
  have hLl : (txB s).length = s.size := by simp [txB]
  have hat : ∀ i c, (esc (txB s) ++ (0 :: d :: r))[i]? = some c → 0 ≤ c ∧ c < 256 → FnL (EnL Tryd.prog g lnD) 29 [.ptr 8 0, .ptr 3 0, .ptr 9 0] (bD b (p + 1 + i) (flB B)) (.tup [.pv (.int .u8 c), .pv (.bool true)]) (bD b (p + 1 + i + 1) (flB B)) := fun i c hc h8 => by
    have := next_fit (g := g) (i := i + 1) (rest := []) hb (by rw [h, List.append_nil]) (by exact hc) h8
    rwa [show p + (i + 1) = p + 1 + i by omega] at this
  have hE1 := hat _ _ (esc_endT (j := 0) rfl) (by omega)
  rw [Nat.add_zero] at hE1
  have hE2 := hat _ _ (esc_endT (j := 1) rfl) (by omega)
  rw [show p + 1 + ((esc (txB s)).length + 1) = p + 1 + (esc (txB s)).length + 1 by omega] at hE2
  have hstep := fun (i : Nat) (c : Int) (hc : (txB s)[i]? = some c) => esc_headT (tail := (0 :: d :: r)) hc
  have hz : (esc ((txB s).take 0)).length = 0 := by rw [List.take_zero]; rfl
  have hfull : (esc ((txB s).take (txB s).length)).length = (esc (txB s)).length := by rw [List.take_length]
  obtain ⟨K, hK⟩ : ∃ K : Nat → Nat, ∀ i, K i = (esc ((txB s).take i)).length := ⟨_, fun _ => rfl⟩
  rw [← hK] at hz hfull
  generalize hEn : (esc (txB s)).length = En' at *
  generalize hLd : txB s = L at *
  generalize flB B = fl at *
  clear h
  refine FnL.of Tryd.func41 rfl rfl rfl rfl ?_
  repeat (first | refine Run.seq ?_ | refine Run.skip ?_ | refine Run.block ?_)
  refine Run.region ?_
  refine O.assign rfl rfl ?_
  refine O.assign rfl rfl ?_
  refine O.nil ?_
  try refine Run.keep [0, 2, 3, 4, 5, 6, 7, 8, 15, 17, 24, 26, 28, 31, 38] rfl rfl ?_
  repeat (first | refine Run.seq ?_ | refine Run.skip ?_ | refine Run.block ?_)
  refine Run.region ?_
  refine O.assign rfl rfl ?_
  refine O.nil ?_
  try refine Run.keep [0, 2, 3, 4, 5, 6, 7, 8, 15, 17, 24, 26, 28, 31, 38] rfl rfl ?_
  refine Run.pre (SLe.nilBox (t := 4) (b := 133) (e := 5) (sz := 1) rfl rfl rfl rfl) ?_
  repeat (first | refine Run.seq ?_ | refine Run.skip ?_)
  refine Run.block ?_
  refine Run.loopInv (ι := Nat) (fun i => i ≤ L.length) (fun i => ⟨41, [(0, cloD), (4, .gl 133 (L.take i).length)], [(8, .var [.pv (.int .i64 ((p + 1 + K i : Nat) : Int))]), (3, .var [.pv (byv b)]), (9, .var [.pv (.int .u8 fl)]), (133, .lst 5 1 ((L.take i).map (PV.int .u8)))]⟩) (fun i => L.length - i) 0 (Nat.zero_le _) ?_ ?_
  ·
    rw [hz]
    exact SLe.drop (by repeat (first | exact TmIn.nil | refine TmIn.cons rfl ?_)) (by repeat (first | exact BxIn.nil | refine BxIn.cons rfl ?_)) rfl rfl
  rintro i hi ih
  by_cases hlt : i < L.length
  ·
    obtain ⟨c, hc⟩ : ∃ c, L[i]? = some c := ⟨_, List.getElem?_eq_getElem hlt⟩
    have hc8 := hL8 c (List.mem_of_getElem? hc)
    obtain ⟨k1, k2, k3⟩ := hstep i c hc
    rw [← hK] at k1 k2 k3
    rw [← hK] at k3
    have cn1 := hat _ _ k1 hc8
    have htk : L.take (i + 1) = L.take i ++ [c] := by rw [List.take_add_one, hc]; rfl
    have hil : (L.take i).length = i := by rw [List.length_take]; omega
    have hilm : ((L.take i).map (PV.int .u8)).length = i := by rw [List.length_map, hil]
    by_cases h0 : c = 0
    ·
      have cn2 := hat _ _ (k2 h0) (by omega)
      rw [if_pos h0] at k3
      subst h0
      have hq1 : p + 1 + (K i + 1) = p + 1 + K i + 1 := by omega
      have hq2 : p + 1 + K (i + 1) = p + 1 + K i + 1 + 1 := by omega
      rw [hq1] at cn2
      repeat (first | refine Run.seq ?_ | refine Run.skip ?_ | refine Run.block ?_)
      refine Run.region ?_
      refine O.move rfl rfl ?_
      refine O.lend (ln := lnD) cn1 rfl rfl rfl (.inl rfl) (by repeat (first | exact BxIn.nil | refine BxIn.cons rfl ?_)) rfl rfl rfl rfl rfl rfl rfl rfl rfl rfl ?_
      refine O.move rfl rfl ?_
      refine O.extract rfl rfl rfl ?_
      refine O.extract rfl rfl rfl ?_
      refine O.assign rfl rfl ?_
      refine O.assign rfl rfl ?_
      refine O.nil ?_
      try refine Run.keep [0, 2, 3, 4, 5, 6, 7, 8, 15, 17, 24, 26, 28, 31, 38] rfl rfl ?_
      repeat (first | refine Run.seq ?_ | refine Run.skip ?_ | refine Run.block ?_)
      refine Run.region ?_
      refine O.move rfl rfl ?_
      refine O.un rfl rfl rfl rfl rfl ?_
      refine O.nil ?_
      try refine Run.keep [0, 2, 3, 4, 5, 6, 7, 8, 15, 17, 24, 26, 28, 31, 38] rfl rfl ?_
      repeat (first | refine Run.seq ?_ | refine Run.skip ?_)
      first | refine Run.condT rfl rfl ?_ | refine Run.condF rfl rfl ?_ | refine Run.condT rfl (by assumption) ?_ | refine Run.condF rfl (by assumption) ?_
      repeat (first | refine Run.seq ?_ | refine Run.skip ?_ | refine Run.block ?_)
      refine Run.region ?_
      refine O.move rfl rfl ?_
      first | refine O.cmp rfl rfl rfl (by first | exact decide_eq_true (by omega) | exact decide_eq_false (by omega)) rfl ?_ | refine O.cmp rfl rfl rfl rfl rfl ?_
      refine O.nil ?_
      try refine Run.keep [0, 2, 3, 4, 5, 6, 7, 8, 15, 17, 24, 26, 28, 31, 38] rfl rfl ?_
      repeat (first | refine Run.seq ?_ | refine Run.skip ?_)
      first | refine Run.condT rfl rfl ?_ | refine Run.condF rfl rfl ?_ | refine Run.condT rfl (by assumption) ?_ | refine Run.condF rfl (by assumption) ?_
      repeat (first | refine Run.seq ?_ | refine Run.skip ?_ | refine Run.block ?_)
      refine Run.region ?_
      refine O.move rfl rfl ?_
      refine O.lend (ln := lnD) cn2 rfl rfl rfl (.inl rfl) (by repeat (first | exact BxIn.nil | refine BxIn.cons rfl ?_)) rfl rfl rfl rfl rfl rfl rfl rfl rfl rfl ?_
      refine O.move rfl rfl ?_
      refine O.extract rfl rfl rfl ?_
      refine O.extract rfl rfl rfl ?_
      refine O.assign rfl rfl ?_
      refine O.assign rfl rfl ?_
      refine O.nil ?_
      try refine Run.keep [0, 2, 3, 4, 5, 6, 7, 8, 15, 17, 24, 26, 28, 31, 38] rfl rfl ?_
      repeat (first | refine Run.seq ?_ | refine Run.skip ?_ | refine Run.block ?_)
      refine Run.region ?_
      refine O.move rfl rfl ?_
      refine O.un rfl rfl rfl rfl rfl ?_
      refine O.nil ?_
      try refine Run.keep [0, 2, 3, 4, 5, 6, 7, 8, 15, 17, 24, 26, 28, 31, 38] rfl rfl ?_
      repeat (first | refine Run.seq ?_ | refine Run.skip ?_)
      first | refine Run.condT rfl rfl ?_ | refine Run.condF rfl rfl ?_ | refine Run.condT rfl (by assumption) ?_ | refine Run.condF rfl (by assumption) ?_
      repeat (first | refine Run.seq ?_ | refine Run.skip ?_ | refine Run.block ?_)
      refine Run.region ?_
      refine O.move rfl rfl ?_
      first | refine O.cmp rfl rfl rfl (by first | exact decide_eq_true (by omega) | exact decide_eq_false (by omega)) rfl ?_ | refine O.cmp rfl rfl rfl rfl rfl ?_
      refine O.nil ?_
      try refine Run.keep [0, 2, 3, 4, 5, 6, 7, 8, 15, 17, 24, 26, 28, 31, 38] rfl rfl ?_
      repeat (first | refine Run.seq ?_ | refine Run.skip ?_)
      first | refine Run.condT rfl rfl ?_ | refine Run.condF rfl rfl ?_ | refine Run.condT rfl (by assumption) ?_ | refine Run.condF rfl (by assumption) ?_
      repeat (first | refine Run.seq ?_ | refine Run.skip ?_ | refine Run.block ?_)
      refine Run.region ?_
      refine O.move rfl rfl ?_
      first | refine O.cmp rfl rfl rfl (by first | exact decide_eq_true (by omega) | exact decide_eq_false (by omega)) rfl ?_ | refine O.cmp rfl rfl rfl rfl rfl ?_
      refine O.nil ?_
      try refine Run.keep [0, 2, 3, 4, 5, 6, 7, 8, 15, 17, 24, 26, 28, 31, 38] rfl rfl ?_
      repeat (first | refine Run.seq ?_ | refine Run.skip ?_)
      first | refine Run.condT rfl rfl ?_ | refine Run.condF rfl rfl ?_ | refine Run.condT rfl (by assumption) ?_ | refine Run.condF rfl (by assumption) ?_
      repeat (first | refine Run.seq ?_ | refine Run.skip ?_ | refine Run.block ?_)
      refine Run.region ?_
      refine O.move rfl rfl ?_
      refine O.lenLst hE T27 rfl rfl rfl (newest_gl rfl (by simp)) rfl ?_; dsimp only
      first | refine O.cmp rfl rfl rfl (by first | exact decide_eq_true (by omega) | exact decide_eq_false (by omega)) rfl ?_ | refine O.cmp rfl rfl rfl rfl rfl ?_
      refine O.nil ?_
      try refine Run.keep [0, 2, 3, 4, 5, 6, 7, 8, 15, 17, 24, 26, 28, 31, 38] rfl rfl ?_
      repeat (first | refine Run.seq ?_ | refine Run.skip ?_)
      first | refine Run.condT rfl rfl ?_ | refine Run.condF rfl rfl ?_ | refine Run.condT rfl (by assumption) ?_ | refine Run.condF rfl (by assumption) ?_
      repeat (first | refine Run.seq ?_ | refine Run.skip ?_ | refine Run.block ?_)
      refine Run.region ?_
      refine O.move rfl rfl ?_
      refine O.move rfl rfl ?_
      refine O.litV hE T27 rfl T5 rfl rfl rfl rfl rfl rfl rfl ?_
      refine O.appV (PV.int .u8) (q := L.take i) (r := [0]) hE T27 rfl T5 rfl rfl rfl rfl rfl newest_pv rfl rfl rfl rfl (by simp; omega) (by simp [maxLen]; omega) rfl ?_
      refine O.assign rfl rfl ?_
      refine O.nil ?_
      try refine Run.keep [0, 2, 3, 4, 5, 6, 7, 8, 15, 17, 24, 26, 28, 31, 38] rfl rfl ?_
      refine ih (i + 1) _ ?_ (by omega) (by omega)
      rw [htk, hq2]
      exact SLe.drop (by repeat (first | exact TmIn.nil | refine TmIn.cons rfl ?_)) (by repeat (first | exact BxIn.nil | refine BxIn.cons rfl ?_)) rfl rfl
    ·
      rw [if_neg h0] at k3
      have hq2 : p + 1 + K (i + 1) = p + 1 + K i + 1 := by omega
      repeat (first | refine Run.seq ?_ | refine Run.skip ?_ | refine Run.block ?_)
      refine Run.region ?_
      refine O.move rfl rfl ?_
      refine O.lend (ln := lnD) cn1 rfl rfl rfl (.inl rfl) (by repeat (first | exact BxIn.nil | refine BxIn.cons rfl ?_)) rfl rfl rfl rfl rfl rfl rfl rfl rfl rfl ?_
      refine O.move rfl rfl ?_
      refine O.extract rfl rfl rfl ?_
      refine O.extract rfl rfl rfl ?_
      refine O.assign rfl rfl ?_
      refine O.assign rfl rfl ?_
      refine O.nil ?_
      try refine Run.keep [0, 2, 3, 4, 5, 6, 7, 8, 15, 17, 24, 26, 28, 31, 38] rfl rfl ?_
      repeat (first | refine Run.seq ?_ | refine Run.skip ?_ | refine Run.block ?_)
      refine Run.region ?_
      refine O.move rfl rfl ?_
      refine O.un rfl rfl rfl rfl rfl ?_
      refine O.nil ?_
      try refine Run.keep [0, 2, 3, 4, 5, 6, 7, 8, 15, 17, 24, 26, 28, 31, 38] rfl rfl ?_
      repeat (first | refine Run.seq ?_ | refine Run.skip ?_)
      first | refine Run.condT rfl rfl ?_ | refine Run.condF rfl rfl ?_ | refine Run.condT rfl (by assumption) ?_ | refine Run.condF rfl (by assumption) ?_
      repeat (first | refine Run.seq ?_ | refine Run.skip ?_ | refine Run.block ?_)
      refine Run.region ?_
      refine O.move rfl rfl ?_
      first | refine O.cmp rfl rfl rfl (by first | exact decide_eq_true (by omega) | exact decide_eq_false (by omega)) rfl ?_ | refine O.cmp rfl rfl rfl rfl rfl ?_
      refine O.nil ?_
      try refine Run.keep [0, 2, 3, 4, 5, 6, 7, 8, 15, 17, 24, 26, 28, 31, 38] rfl rfl ?_
      repeat (first | refine Run.seq ?_ | refine Run.skip ?_)
      first | refine Run.condT rfl rfl ?_ | refine Run.condF rfl rfl ?_ | refine Run.condT rfl (by assumption) ?_ | refine Run.condF rfl (by assumption) ?_
      repeat (first | refine Run.seq ?_ | refine Run.skip ?_ | refine Run.block ?_)
      refine Run.region ?_
      refine O.move rfl rfl ?_
      refine O.lenLst hE T27 rfl rfl rfl (newest_gl rfl (by simp)) rfl ?_; dsimp only
      first | refine O.cmp rfl rfl rfl (by first | exact decide_eq_true (by omega) | exact decide_eq_false (by omega)) rfl ?_ | refine O.cmp rfl rfl rfl rfl rfl ?_
      refine O.nil ?_
      try refine Run.keep [0, 2, 3, 4, 5, 6, 7, 8, 15, 17, 24, 26, 28, 31, 38] rfl rfl ?_
      repeat (first | refine Run.seq ?_ | refine Run.skip ?_)
      first | refine Run.condT rfl rfl ?_ | refine Run.condF rfl rfl ?_ | refine Run.condT rfl (by assumption) ?_ | refine Run.condF rfl (by assumption) ?_
      repeat (first | refine Run.seq ?_ | refine Run.skip ?_ | refine Run.block ?_)
      refine Run.region ?_
      refine O.move rfl rfl ?_
      refine O.move rfl rfl ?_
      refine O.litV hE T27 rfl T5 rfl rfl rfl rfl rfl rfl rfl ?_
      refine O.appV (PV.int .u8) (q := L.take i) (r := [c]) hE T27 rfl T5 rfl rfl rfl rfl rfl newest_pv rfl rfl rfl rfl (by simp; omega) (by simp [maxLen]; omega) rfl ?_
      refine O.assign rfl rfl ?_
      refine O.nil ?_
      try refine Run.keep [0, 2, 3, 4, 5, 6, 7, 8, 15, 17, 24, 26, 28, 31, 38] rfl rfl ?_
      refine ih (i + 1) _ ?_ (by omega) (by omega)
      rw [htk, hq2]
      exact SLe.drop (by repeat (first | exact TmIn.nil | refine TmIn.cons rfl ?_)) (by repeat (first | exact BxIn.nil | refine BxIn.cons rfl ?_)) rfl rfl
  have hi' : i = L.length := by omega
  subst hi'
  rw [List.take_length, hfull]
  repeat (first | refine Run.seq ?_ | refine Run.skip ?_ | refine Run.block ?_)
  refine Run.region ?_
  refine O.move rfl rfl ?_
  refine O.lend (ln := lnD) hE1 rfl rfl rfl (.inl rfl) (by repeat (first | exact BxIn.nil | refine BxIn.cons rfl ?_)) rfl rfl rfl rfl rfl rfl rfl rfl rfl rfl ?_
  refine O.move rfl rfl ?_
  refine O.extract rfl rfl rfl ?_
  refine O.extract rfl rfl rfl ?_
  refine O.assign rfl rfl ?_
  refine O.assign rfl rfl ?_
  refine O.nil ?_
  try refine Run.keep [0, 2, 3, 4, 5, 6, 7, 8, 15, 17, 24, 26, 28, 31, 38] rfl rfl ?_
  repeat (first | refine Run.seq ?_ | refine Run.skip ?_ | refine Run.block ?_)
  refine Run.region ?_
  refine O.move rfl rfl ?_
  refine O.un rfl rfl rfl rfl rfl ?_
  refine O.nil ?_
  try refine Run.keep [0, 2, 3, 4, 5, 6, 7, 8, 15, 17, 24, 26, 28, 31, 38] rfl rfl ?_
  repeat (first | refine Run.seq ?_ | refine Run.skip ?_)
  first | refine Run.condT rfl rfl ?_ | refine Run.condF rfl rfl ?_ | refine Run.condT rfl (by assumption) ?_ | refine Run.condF rfl (by assumption) ?_
  repeat (first | refine Run.seq ?_ | refine Run.skip ?_ | refine Run.block ?_)
  refine Run.region ?_
  refine O.move rfl rfl ?_
  first | refine O.cmp rfl rfl rfl (by first | exact decide_eq_true (by omega) | exact decide_eq_false (by omega)) rfl ?_ | refine O.cmp rfl rfl rfl rfl rfl ?_
  refine O.nil ?_
  try refine Run.keep [0, 2, 3, 4, 5, 6, 7, 8, 15, 17, 24, 26, 28, 31, 38] rfl rfl ?_
  repeat (first | refine Run.seq ?_ | refine Run.skip ?_)
  first | refine Run.condT rfl rfl ?_ | refine Run.condF rfl rfl ?_ | refine Run.condT rfl (by assumption) ?_ | refine Run.condF rfl (by assumption) ?_
  repeat (first | refine Run.seq ?_ | refine Run.skip ?_ | refine Run.block ?_)
  refine Run.region ?_
  refine O.move rfl rfl ?_
  refine O.lend (ln := lnD) hE2 rfl rfl rfl (.inl rfl) (by repeat (first | exact BxIn.nil | refine BxIn.cons rfl ?_)) rfl rfl rfl rfl rfl rfl rfl rfl rfl rfl ?_
  refine O.move rfl rfl ?_
  refine O.extract rfl rfl rfl ?_
  refine O.extract rfl rfl rfl ?_
  refine O.assign rfl rfl ?_
  refine O.assign rfl rfl ?_
  refine O.nil ?_
  try refine Run.keep [0, 2, 3, 4, 5, 6, 7, 8, 15, 17, 24, 26, 28, 31, 38] rfl rfl ?_
  repeat (first | refine Run.seq ?_ | refine Run.skip ?_ | refine Run.block ?_)
  refine Run.region ?_
  refine O.move rfl rfl ?_
  refine O.un rfl rfl rfl rfl rfl ?_
  refine O.nil ?_
  try refine Run.keep [0, 2, 3, 4, 5, 6, 7, 8, 15, 17, 24, 26, 28, 31, 38] rfl rfl ?_
  repeat (first | refine Run.seq ?_ | refine Run.skip ?_)
  first | refine Run.condT rfl rfl ?_ | refine Run.condF rfl rfl ?_ | refine Run.condT rfl (by assumption) ?_ | refine Run.condF rfl (by assumption) ?_
  repeat (first | refine Run.seq ?_ | refine Run.skip ?_ | refine Run.block ?_)
  refine Run.region ?_
  refine O.move rfl rfl ?_
  refine O.cmp (c' := false) rfl rfl rfl (by simpa using hd1) rfl ?_
  refine O.nil ?_
  try refine Run.keep [0, 2, 3, 4, 5, 6, 7, 8, 15, 17, 24, 26, 28, 31, 38] rfl rfl ?_
  repeat (first | refine Run.seq ?_ | refine Run.skip ?_)
  first | refine Run.condT rfl rfl ?_ | refine Run.condF rfl rfl ?_ | refine Run.condT rfl (by assumption) ?_ | refine Run.condF rfl (by assumption) ?_
  repeat (first | refine Run.seq ?_ | refine Run.skip ?_ | refine Run.block ?_)
  refine Run.region ?_
  refine O.move rfl rfl ?_
  refine O.cmp (c' := true) rfl rfl rfl (by simpa using hd2) rfl ?_
  refine O.nil ?_
  try refine Run.keep [0, 2, 3, 4, 5, 6, 7, 8, 15, 17, 24, 26, 28, 31, 38] rfl rfl ?_
  repeat (first | refine Run.seq ?_ | refine Run.skip ?_)
  first | refine Run.condT rfl rfl ?_ | refine Run.condF rfl rfl ?_ | refine Run.condT rfl (by assumption) ?_ | refine Run.condF rfl (by assumption) ?_
  repeat (first | refine Run.seq ?_ | refine Run.skip ?_ | refine Run.block ?_)
  refine Run.region ?_
  refine O.assign rfl rfl ?_
  refine O.assign rfl rfl ?_
  refine O.nil ?_
  try refine Run.keep [0, 2, 3, 4, 5, 6, 7, 8, 15, 17, 24, 26, 28, 31, 38] rfl rfl ?_
  refine Run.ret ?_
  repeat (first | refine thenR_ret ?_ | refine roundR_ret ?_ | refine blockR_ret ?_)
  exact Ends.of hE (.inr rfl) rfl rfl (SLe.drop (by repeat (first | exact TmIn.nil | refine TmIn.cons rfl ?_)) (by repeat (first | exact BxIn.nil | refine BxIn.cons rfl ?_)) rfl rfl)
theorem text_size {s : ByteArray} (hs : s.size = 40) {b r : List Int} {p : Nat} {B : Bool} {c0 : Int} (hd8 : 0 ≤ c0 ∧ c0 < 256) (hc0 : c0 ≠ 0) (hb : b.length ≤ 9223372036854775807) (h : b.drop p = (5 :: (esc (txB s) ++ (c0 :: r))).map (flipB B)) :
    FnL (EnL Tryd.prog g lnD) 41 [cloD] (bD b (p + 1) (flB B)) (.tup [.pv (.str ⟨#[]⟩), .pv (.int .i64 1)]) (bD b (p + 1 + (esc (txB s)).length + 1) (flB B)) := by
  have hE := EnLOk g lnD
  have hL8 : ∀ c ∈ txB s, 0 ≤ c ∧ c < 256 := fun c hc => by
    obtain ⟨u, _, rfl⟩ := List.mem_map.1 hc
    have := u.toNat_lt
    omega
  have hLl : (txB s).length = s.size := by simp [txB]
  have hL40 : (txB s).length = 40 := by omega
  have hat : ∀ i c, (esc (txB s) ++ (c0 :: r))[i]? = some c → 0 ≤ c ∧ c < 256 → FnL (EnL Tryd.prog g lnD) 29 [.ptr 8 0, .ptr 3 0, .ptr 9 0] (bD b (p + 1 + i) (flB B)) (.tup [.pv (.int .u8 c), .pv (.bool true)]) (bD b (p + 1 + i + 1) (flB B)) := fun i c hc h8 => by
    have := next_fit (g := g) (i := i + 1) (rest := []) hb (by rw [h, List.append_nil]) (by exact hc) h8
    rwa [show p + (i + 1) = p + 1 + i by omega] at this
  have hE1 := hat _ _ (esc_endT (j := 0) rfl) (by omega)
  rw [Nat.add_zero] at hE1
  have hstep := fun (i : Nat) (c : Int) (hc : (txB s)[i]? = some c) => esc_headT (tail := (c0 :: r)) hc
  have hz : (esc ((txB s).take 0)).length = 0 := by rw [List.take_zero]; rfl
  have hfull : (esc ((txB s).take (txB s).length)).length = (esc (txB s)).length := by rw [List.take_length]
  obtain ⟨K, hK⟩ : ∃ K : Nat → Nat, ∀ i, K i = (esc ((txB s).take i)).length := ⟨_, fun _ => rfl⟩
  rw [← hK] at hz hfull
  generalize hEn : (esc (txB s)).length = En' at *
  generalize hLd : txB s = L at *
  generalize flB B = fl at *
  clear h
  refine FnL.of Tryd.func41 rfl rfl rfl rfl ?_
  repeat (first | refine Run.seq ?_ | refine Run.skip ?_ | refine Run.block ?_)
  refine Run.region ?_
  refine O.assign rfl rfl ?_
  refine O.assign rfl rfl ?_
  refine O.nil ?_
  try refine Run.keep [0, 2, 3, 4, 5, 6, 7, 8, 15, 17, 24, 26, 28, 31, 38] rfl rfl ?_
  repeat (first | refine Run.seq ?_ | refine Run.skip ?_ | refine Run.block ?_)
  refine Run.region ?_
  refine O.assign rfl rfl ?_
  refine O.nil ?_
  try refine Run.keep [0, 2, 3, 4, 5, 6, 7, 8, 15, 17, 24, 26, 28, 31, 38] rfl rfl ?_
  refine Run.pre (SLe.nilBox (t := 4) (b := 133) (e := 5) (sz := 1) rfl rfl rfl rfl) ?_
  repeat (first | refine Run.seq ?_ | refine Run.skip ?_)
  refine Run.block ?_
  refine Run.loopInv (ι := Nat) (fun i => i ≤ L.length) (fun i => ⟨41, [(0, cloD), (4, .gl 133 (L.take i).length)], [(8, .var [.pv (.int .i64 ((p + 1 + K i : Nat) : Int))]), (3, .var [.pv (byv b)]), (9, .var [.pv (.int .u8 fl)]), (133, .lst 5 1 ((L.take i).map (PV.int .u8)))]⟩) (fun i => L.length - i) 0 (Nat.zero_le _) ?_ ?_
  ·
    rw [hz]
    exact SLe.drop (by repeat (first | exact TmIn.nil | refine TmIn.cons rfl ?_)) (by repeat (first | exact BxIn.nil | refine BxIn.cons rfl ?_)) rfl rfl
  rintro i hi ih
  by_cases hlt : i < L.length
  ·
    obtain ⟨c, hc⟩ : ∃ c, L[i]? = some c := ⟨_, List.getElem?_eq_getElem hlt⟩
    have hc8 := hL8 c (List.mem_of_getElem? hc)
    obtain ⟨k1, k2, k3⟩ := hstep i c hc
    rw [← hK] at k1 k2 k3
    rw [← hK] at k3
    have cn1 := hat _ _ k1 hc8
    have htk : L.take (i + 1) = L.take i ++ [c] := by rw [List.take_add_one, hc]; rfl
    have hil : (L.take i).length = i := by rw [List.length_take]; omega
    have hilm : ((L.take i).map (PV.int .u8)).length = i := by rw [List.length_map, hil]
    by_cases h0 : c = 0
    ·
      have cn2 := hat _ _ (k2 h0) (by omega)
      rw [if_pos h0] at k3
      subst h0
      have hq1 : p + 1 + (K i + 1) = p + 1 + K i + 1 := by omega
      have hq2 : p + 1 + K (i + 1) = p + 1 + K i + 1 + 1 := by omega
      rw [hq1] at cn2
      repeat (first | refine Run.seq ?_ | refine Run.skip ?_ | refine Run.block ?_)
      refine Run.region ?_
      refine O.move rfl rfl ?_
      refine O.lend (ln := lnD) cn1 rfl rfl rfl (.inl rfl) (by repeat (first | exact BxIn.nil | refine BxIn.cons rfl ?_)) rfl rfl rfl rfl rfl rfl rfl rfl rfl rfl ?_
      refine O.move rfl rfl ?_
      refine O.extract rfl rfl rfl ?_
      refine O.extract rfl rfl rfl ?_
      refine O.assign rfl rfl ?_
      refine O.assign rfl rfl ?_
      refine O.nil ?_
      try refine Run.keep [0, 2, 3, 4, 5, 6, 7, 8, 15, 17, 24, 26, 28, 31, 38] rfl rfl ?_
      repeat (first | refine Run.seq ?_ | refine Run.skip ?_ | refine Run.block ?_)
      refine Run.region ?_
      refine O.move rfl rfl ?_
      refine O.un rfl rfl rfl rfl rfl ?_
      refine O.nil ?_
      try refine Run.keep [0, 2, 3, 4, 5, 6, 7, 8, 15, 17, 24, 26, 28, 31, 38] rfl rfl ?_
      repeat (first | refine Run.seq ?_ | refine Run.skip ?_)
      first | refine Run.condT rfl rfl ?_ | refine Run.condF rfl rfl ?_ | refine Run.condT rfl (by assumption) ?_ | refine Run.condF rfl (by assumption) ?_
      repeat (first | refine Run.seq ?_ | refine Run.skip ?_ | refine Run.block ?_)
      refine Run.region ?_
      refine O.move rfl rfl ?_
      first | refine O.cmp rfl rfl rfl (by first | exact decide_eq_true (by omega) | exact decide_eq_false (by omega)) rfl ?_ | refine O.cmp rfl rfl rfl rfl rfl ?_
      refine O.nil ?_
      try refine Run.keep [0, 2, 3, 4, 5, 6, 7, 8, 15, 17, 24, 26, 28, 31, 38] rfl rfl ?_
      repeat (first | refine Run.seq ?_ | refine Run.skip ?_)
      first | refine Run.condT rfl rfl ?_ | refine Run.condF rfl rfl ?_ | refine Run.condT rfl (by assumption) ?_ | refine Run.condF rfl (by assumption) ?_
      repeat (first | refine Run.seq ?_ | refine Run.skip ?_ | refine Run.block ?_)
      refine Run.region ?_
      refine O.move rfl rfl ?_
      refine O.lend (ln := lnD) cn2 rfl rfl rfl (.inl rfl) (by repeat (first | exact BxIn.nil | refine BxIn.cons rfl ?_)) rfl rfl rfl rfl rfl rfl rfl rfl rfl rfl ?_
      refine O.move rfl rfl ?_
      refine O.extract rfl rfl rfl ?_
      refine O.extract rfl rfl rfl ?_
      refine O.assign rfl rfl ?_
      refine O.assign rfl rfl ?_
      refine O.nil ?_
      try refine Run.keep [0, 2, 3, 4, 5, 6, 7, 8, 15, 17, 24, 26, 28, 31, 38] rfl rfl ?_
      repeat (first | refine Run.seq ?_ | refine Run.skip ?_ | refine Run.block ?_)
      refine Run.region ?_
      refine O.move rfl rfl ?_
      refine O.un rfl rfl rfl rfl rfl ?_
      refine O.nil ?_
      try refine Run.keep [0, 2, 3, 4, 5, 6, 7, 8, 15, 17, 24, 26, 28, 31, 38] rfl rfl ?_
      repeat (first | refine Run.seq ?_ | refine Run.skip ?_)
      first | refine Run.condT rfl rfl ?_ | refine Run.condF rfl rfl ?_ | refine Run.condT rfl (by assumption) ?_ | refine Run.condF rfl (by assumption) ?_
      repeat (first | refine Run.seq ?_ | refine Run.skip ?_ | refine Run.block ?_)
      refine Run.region ?_
      refine O.move rfl rfl ?_
      first | refine O.cmp rfl rfl rfl (by first | exact decide_eq_true (by omega) | exact decide_eq_false (by omega)) rfl ?_ | refine O.cmp rfl rfl rfl rfl rfl ?_
      refine O.nil ?_
      try refine Run.keep [0, 2, 3, 4, 5, 6, 7, 8, 15, 17, 24, 26, 28, 31, 38] rfl rfl ?_
      repeat (first | refine Run.seq ?_ | refine Run.skip ?_)
      first | refine Run.condT rfl rfl ?_ | refine Run.condF rfl rfl ?_ | refine Run.condT rfl (by assumption) ?_ | refine Run.condF rfl (by assumption) ?_
      repeat (first | refine Run.seq ?_ | refine Run.skip ?_ | refine Run.block ?_)
      refine Run.region ?_
      refine O.move rfl rfl ?_
      first | refine O.cmp rfl rfl rfl (by first | exact decide_eq_true (by omega) | exact decide_eq_false (by omega)) rfl ?_ | refine O.cmp rfl rfl rfl rfl rfl ?_
      refine O.nil ?_
      try refine Run.keep [0, 2, 3, 4, 5, 6, 7, 8, 15, 17, 24, 26, 28, 31, 38] rfl rfl ?_
      repeat (first | refine Run.seq ?_ | refine Run.skip ?_)
      first | refine Run.condT rfl rfl ?_ | refine Run.condF rfl rfl ?_ | refine Run.condT rfl (by assumption) ?_ | refine Run.condF rfl (by assumption) ?_
      repeat (first | refine Run.seq ?_ | refine Run.skip ?_ | refine Run.block ?_)
      refine Run.region ?_
      refine O.move rfl rfl ?_
      refine O.lenLst hE T27 rfl rfl rfl (newest_gl rfl (by simp)) rfl ?_; dsimp only
      first | refine O.cmp rfl rfl rfl (by first | exact decide_eq_true (by omega) | exact decide_eq_false (by omega)) rfl ?_ | refine O.cmp rfl rfl rfl rfl rfl ?_
      refine O.nil ?_
      try refine Run.keep [0, 2, 3, 4, 5, 6, 7, 8, 15, 17, 24, 26, 28, 31, 38] rfl rfl ?_
      repeat (first | refine Run.seq ?_ | refine Run.skip ?_)
      first | refine Run.condT rfl rfl ?_ | refine Run.condF rfl rfl ?_ | refine Run.condT rfl (by assumption) ?_ | refine Run.condF rfl (by assumption) ?_
      repeat (first | refine Run.seq ?_ | refine Run.skip ?_ | refine Run.block ?_)
      refine Run.region ?_
      refine O.move rfl rfl ?_
      refine O.move rfl rfl ?_
      refine O.litV hE T27 rfl T5 rfl rfl rfl rfl rfl rfl rfl ?_
      refine O.appV (PV.int .u8) (q := L.take i) (r := [0]) hE T27 rfl T5 rfl rfl rfl rfl rfl newest_pv rfl rfl rfl rfl (by simp; omega) (by simp [maxLen]; omega) rfl ?_
      refine O.assign rfl rfl ?_
      refine O.nil ?_
      try refine Run.keep [0, 2, 3, 4, 5, 6, 7, 8, 15, 17, 24, 26, 28, 31, 38] rfl rfl ?_
      refine ih (i + 1) _ ?_ (by omega) (by omega)
      rw [htk, hq2]
      exact SLe.drop (by repeat (first | exact TmIn.nil | refine TmIn.cons rfl ?_)) (by repeat (first | exact BxIn.nil | refine BxIn.cons rfl ?_)) rfl rfl
    ·
      rw [if_neg h0] at k3
      have hq2 : p + 1 + K (i + 1) = p + 1 + K i + 1 := by omega
      repeat (first | refine Run.seq ?_ | refine Run.skip ?_ | refine Run.block ?_)
      refine Run.region ?_
      refine O.move rfl rfl ?_
      refine O.lend (ln := lnD) cn1 rfl rfl rfl (.inl rfl) (by repeat (first | exact BxIn.nil | refine BxIn.cons rfl ?_)) rfl rfl rfl rfl rfl rfl rfl rfl rfl rfl ?_
      refine O.move rfl rfl ?_
      refine O.extract rfl rfl rfl ?_
      refine O.extract rfl rfl rfl ?_
      refine O.assign rfl rfl ?_
      refine O.assign rfl rfl ?_
      refine O.nil ?_
      try refine Run.keep [0, 2, 3, 4, 5, 6, 7, 8, 15, 17, 24, 26, 28, 31, 38] rfl rfl ?_
      repeat (first | refine Run.seq ?_ | refine Run.skip ?_ | refine Run.block ?_)
      refine Run.region ?_
      refine O.move rfl rfl ?_
      refine O.un rfl rfl rfl rfl rfl ?_
      refine O.nil ?_
      try refine Run.keep [0, 2, 3, 4, 5, 6, 7, 8, 15, 17, 24, 26, 28, 31, 38] rfl rfl ?_
      repeat (first | refine Run.seq ?_ | refine Run.skip ?_)
      first | refine Run.condT rfl rfl ?_ | refine Run.condF rfl rfl ?_ | refine Run.condT rfl (by assumption) ?_ | refine Run.condF rfl (by assumption) ?_
      repeat (first | refine Run.seq ?_ | refine Run.skip ?_ | refine Run.block ?_)
      refine Run.region ?_
      refine O.move rfl rfl ?_
      first | refine O.cmp rfl rfl rfl (by first | exact decide_eq_true (by omega) | exact decide_eq_false (by omega)) rfl ?_ | refine O.cmp rfl rfl rfl rfl rfl ?_
      refine O.nil ?_
      try refine Run.keep [0, 2, 3, 4, 5, 6, 7, 8, 15, 17, 24, 26, 28, 31, 38] rfl rfl ?_
      repeat (first | refine Run.seq ?_ | refine Run.skip ?_)
      first | refine Run.condT rfl rfl ?_ | refine Run.condF rfl rfl ?_ | refine Run.condT rfl (by assumption) ?_ | refine Run.condF rfl (by assumption) ?_
      repeat (first | refine Run.seq ?_ | refine Run.skip ?_ | refine Run.block ?_)
      refine Run.region ?_
      refine O.move rfl rfl ?_
      refine O.lenLst hE T27 rfl rfl rfl (newest_gl rfl (by simp)) rfl ?_; dsimp only
      first | refine O.cmp rfl rfl rfl (by first | exact decide_eq_true (by omega) | exact decide_eq_false (by omega)) rfl ?_ | refine O.cmp rfl rfl rfl rfl rfl ?_
      refine O.nil ?_
      try refine Run.keep [0, 2, 3, 4, 5, 6, 7, 8, 15, 17, 24, 26, 28, 31, 38] rfl rfl ?_
      repeat (first | refine Run.seq ?_ | refine Run.skip ?_)
      first | refine Run.condT rfl rfl ?_ | refine Run.condF rfl rfl ?_ | refine Run.condT rfl (by assumption) ?_ | refine Run.condF rfl (by assumption) ?_
      repeat (first | refine Run.seq ?_ | refine Run.skip ?_ | refine Run.block ?_)
      refine Run.region ?_
      refine O.move rfl rfl ?_
      refine O.move rfl rfl ?_
      refine O.litV hE T27 rfl T5 rfl rfl rfl rfl rfl rfl rfl ?_
      refine O.appV (PV.int .u8) (q := L.take i) (r := [c]) hE T27 rfl T5 rfl rfl rfl rfl rfl newest_pv rfl rfl rfl rfl (by simp; omega) (by simp [maxLen]; omega) rfl ?_
      refine O.assign rfl rfl ?_
      refine O.nil ?_
      try refine Run.keep [0, 2, 3, 4, 5, 6, 7, 8, 15, 17, 24, 26, 28, 31, 38] rfl rfl ?_
      refine ih (i + 1) _ ?_ (by omega) (by omega)
      rw [htk, hq2]
      exact SLe.drop (by repeat (first | exact TmIn.nil | refine TmIn.cons rfl ?_)) (by repeat (first | exact BxIn.nil | refine BxIn.cons rfl ?_)) rfl rfl
  have hi' : i = L.length := by omega
  subst hi'
  rw [List.take_length, hfull]
  repeat (first | refine Run.seq ?_ | refine Run.skip ?_ | refine Run.block ?_)
  refine Run.region ?_
  refine O.move rfl rfl ?_
  refine O.lend (ln := lnD) hE1 rfl rfl rfl (.inl rfl) (by repeat (first | exact BxIn.nil | refine BxIn.cons rfl ?_)) rfl rfl rfl rfl rfl rfl rfl rfl rfl rfl ?_
  refine O.move rfl rfl ?_
  refine O.extract rfl rfl rfl ?_
  refine O.extract rfl rfl rfl ?_
  refine O.assign rfl rfl ?_
  refine O.assign rfl rfl ?_
  refine O.nil ?_
  try refine Run.keep [0, 2, 3, 4, 5, 6, 7, 8, 15, 17, 24, 26, 28, 31, 38] rfl rfl ?_
  repeat (first | refine Run.seq ?_ | refine Run.skip ?_ | refine Run.block ?_)
  refine Run.region ?_
  refine O.move rfl rfl ?_
  refine O.un rfl rfl rfl rfl rfl ?_
  refine O.nil ?_
  try refine Run.keep [0, 2, 3, 4, 5, 6, 7, 8, 15, 17, 24, 26, 28, 31, 38] rfl rfl ?_
  repeat (first | refine Run.seq ?_ | refine Run.skip ?_)
  first | refine Run.condT rfl rfl ?_ | refine Run.condF rfl rfl ?_ | refine Run.condT rfl (by assumption) ?_ | refine Run.condF rfl (by assumption) ?_
  repeat (first | refine Run.seq ?_ | refine Run.skip ?_ | refine Run.block ?_)
  refine Run.region ?_
  refine O.move rfl rfl ?_
  refine O.cmp (c' := false) rfl rfl rfl (by simpa using hc0) rfl ?_
  refine O.nil ?_
  try refine Run.keep [0, 2, 3, 4, 5, 6, 7, 8, 15, 17, 24, 26, 28, 31, 38] rfl rfl ?_
  repeat (first | refine Run.seq ?_ | refine Run.skip ?_)
  first | refine Run.condT rfl rfl ?_ | refine Run.condF rfl rfl ?_ | refine Run.condT rfl (by assumption) ?_ | refine Run.condF rfl (by assumption) ?_
  repeat (first | refine Run.seq ?_ | refine Run.skip ?_ | refine Run.block ?_)
  refine Run.region ?_
  refine O.move rfl rfl ?_
  refine O.lenLst hE T27 rfl rfl rfl (newest_gl rfl (by simp)) rfl ?_; dsimp only
  refine O.cmp (c' := true) rfl rfl rfl (by simp [hL40]) rfl ?_
  refine O.nil ?_
  try refine Run.keep [0, 2, 3, 4, 5, 6, 7, 8, 15, 17, 24, 26, 28, 31, 38] rfl rfl ?_
  repeat (first | refine Run.seq ?_ | refine Run.skip ?_)
  first | refine Run.condT rfl rfl ?_ | refine Run.condF rfl rfl ?_ | refine Run.condT rfl (by assumption) ?_ | refine Run.condF rfl (by assumption) ?_
  repeat (first | refine Run.seq ?_ | refine Run.skip ?_ | refine Run.block ?_)
  refine Run.region ?_
  refine O.assign rfl rfl ?_
  refine O.assign rfl rfl ?_
  refine O.nil ?_
  try refine Run.keep [0, 2, 3, 4, 5, 6, 7, 8, 15, 17, 24, 26, 28, 31, 38] rfl rfl ?_
  refine Run.ret ?_
  repeat (first | refine thenR_ret ?_ | refine roundR_ret ?_ | refine blockR_ret ?_)
  exact Ends.of hE (.inr rfl) rfl rfl (SLe.drop (by repeat (first | exact TmIn.nil | refine TmIn.cons rfl ?_)) (by repeat (first | exact BxIn.nil | refine BxIn.cons rfl ?_)) rfl rfl)
theorem text_size0 {s : ByteArray} (hs : s.size = 40) {b r : List Int} {p : Nat} {B : Bool} (hb : b.length ≤ 9223372036854775807) (h : b.drop p = (5 :: (esc (txB s) ++ (0 :: 255 :: r))).map (flipB B)) :
    FnL (EnL Tryd.prog g lnD) 41 [cloD] (bD b (p + 1) (flB B)) (.tup [.pv (.str ⟨#[]⟩), .pv (.int .i64 1)]) (bD b (p + 1 + (esc (txB s)).length + 2) (flB B)) := by
  have hE := EnLOk g lnD
  have hL8 : ∀ c ∈ txB s, 0 ≤ c ∧ c < 256 := fun c hc => by
    obtain ⟨u, _, rfl⟩ := List.mem_map.1 hc
    have := u.toNat_lt
    omega
  have hLl : (txB s).length = s.size := by simp [txB]
  have hL40 : (txB s).length = 40 := by omega
  have hat : ∀ i c, (esc (txB s) ++ (0 :: 255 :: r))[i]? = some c → 0 ≤ c ∧ c < 256 → FnL (EnL Tryd.prog g lnD) 29 [.ptr 8 0, .ptr 3 0, .ptr 9 0] (bD b (p + 1 + i) (flB B)) (.tup [.pv (.int .u8 c), .pv (.bool true)]) (bD b (p + 1 + i + 1) (flB B)) := fun i c hc h8 => by
    have := next_fit (g := g) (i := i + 1) (rest := []) hb (by rw [h, List.append_nil]) (by exact hc) h8
    rwa [show p + (i + 1) = p + 1 + i by omega] at this
  have hE1 := hat _ _ (esc_endT (j := 0) rfl) (by omega)
  rw [Nat.add_zero] at hE1
  have hE2 := hat _ _ (esc_endT (j := 1) rfl) (by omega)
  rw [show p + 1 + ((esc (txB s)).length + 1) = p + 1 + (esc (txB s)).length + 1 by omega] at hE2
  have hstep := fun (i : Nat) (c : Int) (hc : (txB s)[i]? = some c) => esc_headT (tail := (0 :: 255 :: r)) hc
  have hz : (esc ((txB s).take 0)).length = 0 := by rw [List.take_zero]; rfl
  have hfull : (esc ((txB s).take (txB s).length)).length = (esc (txB s)).length := by rw [List.take_length]
  obtain ⟨K, hK⟩ : ∃ K : Nat → Nat, ∀ i, K i = (esc ((txB s).take i)).length := ⟨_, fun _ => rfl⟩
  rw [← hK] at hz hfull
  generalize hEn : (esc (txB s)).length = En' at *
  generalize hLd : txB s = L at *
  generalize flB B = fl at *
  clear h
  refine FnL.of Tryd.func41 rfl rfl rfl rfl ?_
  repeat (first | refine Run.seq ?_ | refine Run.skip ?_ | refine Run.block ?_)
  refine Run.region ?_
  refine O.assign rfl rfl ?_
  refine O.assign rfl rfl ?_
  refine O.nil ?_
  try refine Run.keep [0, 2, 3, 4, 5, 6, 7, 8, 15, 17, 24, 26, 28, 31, 38] rfl rfl ?_
  repeat (first | refine Run.seq ?_ | refine Run.skip ?_ | refine Run.block ?_)
  refine Run.region ?_
  refine O.assign rfl rfl ?_
  refine O.nil ?_
  try refine Run.keep [0, 2, 3, 4, 5, 6, 7, 8, 15, 17, 24, 26, 28, 31, 38] rfl rfl ?_
  refine Run.pre (SLe.nilBox (t := 4) (b := 133) (e := 5) (sz := 1) rfl rfl rfl rfl) ?_
  repeat (first | refine Run.seq ?_ | refine Run.skip ?_)
  refine Run.block ?_
  refine Run.loopInv (ι := Nat) (fun i => i ≤ L.length) (fun i => ⟨41, [(0, cloD), (4, .gl 133 (L.take i).length)], [(8, .var [.pv (.int .i64 ((p + 1 + K i : Nat) : Int))]), (3, .var [.pv (byv b)]), (9, .var [.pv (.int .u8 fl)]), (133, .lst 5 1 ((L.take i).map (PV.int .u8)))]⟩) (fun i => L.length - i) 0 (Nat.zero_le _) ?_ ?_
  ·
    rw [hz]
    exact SLe.drop (by repeat (first | exact TmIn.nil | refine TmIn.cons rfl ?_)) (by repeat (first | exact BxIn.nil | refine BxIn.cons rfl ?_)) rfl rfl
  rintro i hi ih
  by_cases hlt : i < L.length
  ·
    obtain ⟨c, hc⟩ : ∃ c, L[i]? = some c := ⟨_, List.getElem?_eq_getElem hlt⟩
    have hc8 := hL8 c (List.mem_of_getElem? hc)
    obtain ⟨k1, k2, k3⟩ := hstep i c hc
    rw [← hK] at k1 k2 k3
    rw [← hK] at k3
    have cn1 := hat _ _ k1 hc8
    have htk : L.take (i + 1) = L.take i ++ [c] := by rw [List.take_add_one, hc]; rfl
    have hil : (L.take i).length = i := by rw [List.length_take]; omega
    have hilm : ((L.take i).map (PV.int .u8)).length = i := by rw [List.length_map, hil]
    by_cases h0 : c = 0
    ·
      have cn2 := hat _ _ (k2 h0) (by omega)
      rw [if_pos h0] at k3
      subst h0
      have hq1 : p + 1 + (K i + 1) = p + 1 + K i + 1 := by omega
      have hq2 : p + 1 + K (i + 1) = p + 1 + K i + 1 + 1 := by omega
      rw [hq1] at cn2
      repeat (first | refine Run.seq ?_ | refine Run.skip ?_ | refine Run.block ?_)
      refine Run.region ?_
      refine O.move rfl rfl ?_
      refine O.lend (ln := lnD) cn1 rfl rfl rfl (.inl rfl) (by repeat (first | exact BxIn.nil | refine BxIn.cons rfl ?_)) rfl rfl rfl rfl rfl rfl rfl rfl rfl rfl ?_
      refine O.move rfl rfl ?_
      refine O.extract rfl rfl rfl ?_
      refine O.extract rfl rfl rfl ?_
      refine O.assign rfl rfl ?_
      refine O.assign rfl rfl ?_
      refine O.nil ?_
      try refine Run.keep [0, 2, 3, 4, 5, 6, 7, 8, 15, 17, 24, 26, 28, 31, 38] rfl rfl ?_
      repeat (first | refine Run.seq ?_ | refine Run.skip ?_ | refine Run.block ?_)
      refine Run.region ?_
      refine O.move rfl rfl ?_
      refine O.un rfl rfl rfl rfl rfl ?_
      refine O.nil ?_
      try refine Run.keep [0, 2, 3, 4, 5, 6, 7, 8, 15, 17, 24, 26, 28, 31, 38] rfl rfl ?_
      repeat (first | refine Run.seq ?_ | refine Run.skip ?_)
      first | refine Run.condT rfl rfl ?_ | refine Run.condF rfl rfl ?_ | refine Run.condT rfl (by assumption) ?_ | refine Run.condF rfl (by assumption) ?_
      repeat (first | refine Run.seq ?_ | refine Run.skip ?_ | refine Run.block ?_)
      refine Run.region ?_
      refine O.move rfl rfl ?_
      first | refine O.cmp rfl rfl rfl (by first | exact decide_eq_true (by omega) | exact decide_eq_false (by omega)) rfl ?_ | refine O.cmp rfl rfl rfl rfl rfl ?_
      refine O.nil ?_
      try refine Run.keep [0, 2, 3, 4, 5, 6, 7, 8, 15, 17, 24, 26, 28, 31, 38] rfl rfl ?_
      repeat (first | refine Run.seq ?_ | refine Run.skip ?_)
      first | refine Run.condT rfl rfl ?_ | refine Run.condF rfl rfl ?_ | refine Run.condT rfl (by assumption) ?_ | refine Run.condF rfl (by assumption) ?_
      repeat (first | refine Run.seq ?_ | refine Run.skip ?_ | refine Run.block ?_)
      refine Run.region ?_
      refine O.move rfl rfl ?_
      refine O.lend (ln := lnD) cn2 rfl rfl rfl (.inl rfl) (by repeat (first | exact BxIn.nil | refine BxIn.cons rfl ?_)) rfl rfl rfl rfl rfl rfl rfl rfl rfl rfl ?_
      refine O.move rfl rfl ?_
      refine O.extract rfl rfl rfl ?_
      refine O.extract rfl rfl rfl ?_
      refine O.assign rfl rfl ?_
      refine O.assign rfl rfl ?_
      refine O.nil ?_
      try refine Run.keep [0, 2, 3, 4, 5, 6, 7, 8, 15, 17, 24, 26, 28, 31, 38] rfl rfl ?_
      repeat (first | refine Run.seq ?_ | refine Run.skip ?_ | refine Run.block ?_)
      refine Run.region ?_
      refine O.move rfl rfl ?_
      refine O.un rfl rfl rfl rfl rfl ?_
      refine O.nil ?_
      try refine Run.keep [0, 2, 3, 4, 5, 6, 7, 8, 15, 17, 24, 26, 28, 31, 38] rfl rfl ?_
      repeat (first | refine Run.seq ?_ | refine Run.skip ?_)
      first | refine Run.condT rfl rfl ?_ | refine Run.condF rfl rfl ?_ | refine Run.condT rfl (by assumption) ?_ | refine Run.condF rfl (by assumption) ?_
      repeat (first | refine Run.seq ?_ | refine Run.skip ?_ | refine Run.block ?_)
      refine Run.region ?_
      refine O.move rfl rfl ?_
      first | refine O.cmp rfl rfl rfl (by first | exact decide_eq_true (by omega) | exact decide_eq_false (by omega)) rfl ?_ | refine O.cmp rfl rfl rfl rfl rfl ?_
      refine O.nil ?_
      try refine Run.keep [0, 2, 3, 4, 5, 6, 7, 8, 15, 17, 24, 26, 28, 31, 38] rfl rfl ?_
      repeat (first | refine Run.seq ?_ | refine Run.skip ?_)
      first | refine Run.condT rfl rfl ?_ | refine Run.condF rfl rfl ?_ | refine Run.condT rfl (by assumption) ?_ | refine Run.condF rfl (by assumption) ?_
      repeat (first | refine Run.seq ?_ | refine Run.skip ?_ | refine Run.block ?_)
      refine Run.region ?_
      refine O.move rfl rfl ?_
      first | refine O.cmp rfl rfl rfl (by first | exact decide_eq_true (by omega) | exact decide_eq_false (by omega)) rfl ?_ | refine O.cmp rfl rfl rfl rfl rfl ?_
      refine O.nil ?_
      try refine Run.keep [0, 2, 3, 4, 5, 6, 7, 8, 15, 17, 24, 26, 28, 31, 38] rfl rfl ?_
      repeat (first | refine Run.seq ?_ | refine Run.skip ?_)
      first | refine Run.condT rfl rfl ?_ | refine Run.condF rfl rfl ?_ | refine Run.condT rfl (by assumption) ?_ | refine Run.condF rfl (by assumption) ?_
      repeat (first | refine Run.seq ?_ | refine Run.skip ?_ | refine Run.block ?_)
      refine Run.region ?_
      refine O.move rfl rfl ?_
      refine O.lenLst hE T27 rfl rfl rfl (newest_gl rfl (by simp)) rfl ?_; dsimp only
      first | refine O.cmp rfl rfl rfl (by first | exact decide_eq_true (by omega) | exact decide_eq_false (by omega)) rfl ?_ | refine O.cmp rfl rfl rfl rfl rfl ?_
      refine O.nil ?_
      try refine Run.keep [0, 2, 3, 4, 5, 6, 7, 8, 15, 17, 24, 26, 28, 31, 38] rfl rfl ?_
      repeat (first | refine Run.seq ?_ | refine Run.skip ?_)
      first | refine Run.condT rfl rfl ?_ | refine Run.condF rfl rfl ?_ | refine Run.condT rfl (by assumption) ?_ | refine Run.condF rfl (by assumption) ?_
      repeat (first | refine Run.seq ?_ | refine Run.skip ?_ | refine Run.block ?_)
      refine Run.region ?_
      refine O.move rfl rfl ?_
      refine O.move rfl rfl ?_
      refine O.litV hE T27 rfl T5 rfl rfl rfl rfl rfl rfl rfl ?_
      refine O.appV (PV.int .u8) (q := L.take i) (r := [0]) hE T27 rfl T5 rfl rfl rfl rfl rfl newest_pv rfl rfl rfl rfl (by simp; omega) (by simp [maxLen]; omega) rfl ?_
      refine O.assign rfl rfl ?_
      refine O.nil ?_
      try refine Run.keep [0, 2, 3, 4, 5, 6, 7, 8, 15, 17, 24, 26, 28, 31, 38] rfl rfl ?_
      refine ih (i + 1) _ ?_ (by omega) (by omega)
      rw [htk, hq2]
      exact SLe.drop (by repeat (first | exact TmIn.nil | refine TmIn.cons rfl ?_)) (by repeat (first | exact BxIn.nil | refine BxIn.cons rfl ?_)) rfl rfl
    ·
      rw [if_neg h0] at k3
      have hq2 : p + 1 + K (i + 1) = p + 1 + K i + 1 := by omega
      repeat (first | refine Run.seq ?_ | refine Run.skip ?_ | refine Run.block ?_)
      refine Run.region ?_
      refine O.move rfl rfl ?_
      refine O.lend (ln := lnD) cn1 rfl rfl rfl (.inl rfl) (by repeat (first | exact BxIn.nil | refine BxIn.cons rfl ?_)) rfl rfl rfl rfl rfl rfl rfl rfl rfl rfl ?_
      refine O.move rfl rfl ?_
      refine O.extract rfl rfl rfl ?_
      refine O.extract rfl rfl rfl ?_
      refine O.assign rfl rfl ?_
      refine O.assign rfl rfl ?_
      refine O.nil ?_
      try refine Run.keep [0, 2, 3, 4, 5, 6, 7, 8, 15, 17, 24, 26, 28, 31, 38] rfl rfl ?_
      repeat (first | refine Run.seq ?_ | refine Run.skip ?_ | refine Run.block ?_)
      refine Run.region ?_
      refine O.move rfl rfl ?_
      refine O.un rfl rfl rfl rfl rfl ?_
      refine O.nil ?_
      try refine Run.keep [0, 2, 3, 4, 5, 6, 7, 8, 15, 17, 24, 26, 28, 31, 38] rfl rfl ?_
      repeat (first | refine Run.seq ?_ | refine Run.skip ?_)
      first | refine Run.condT rfl rfl ?_ | refine Run.condF rfl rfl ?_ | refine Run.condT rfl (by assumption) ?_ | refine Run.condF rfl (by assumption) ?_
      repeat (first | refine Run.seq ?_ | refine Run.skip ?_ | refine Run.block ?_)
      refine Run.region ?_
      refine O.move rfl rfl ?_
      first | refine O.cmp rfl rfl rfl (by first | exact decide_eq_true (by omega) | exact decide_eq_false (by omega)) rfl ?_ | refine O.cmp rfl rfl rfl rfl rfl ?_
      refine O.nil ?_
      try refine Run.keep [0, 2, 3, 4, 5, 6, 7, 8, 15, 17, 24, 26, 28, 31, 38] rfl rfl ?_
      repeat (first | refine Run.seq ?_ | refine Run.skip ?_)
      first | refine Run.condT rfl rfl ?_ | refine Run.condF rfl rfl ?_ | refine Run.condT rfl (by assumption) ?_ | refine Run.condF rfl (by assumption) ?_
      repeat (first | refine Run.seq ?_ | refine Run.skip ?_ | refine Run.block ?_)
      refine Run.region ?_
      refine O.move rfl rfl ?_
      refine O.lenLst hE T27 rfl rfl rfl (newest_gl rfl (by simp)) rfl ?_; dsimp only
      first | refine O.cmp rfl rfl rfl (by first | exact decide_eq_true (by omega) | exact decide_eq_false (by omega)) rfl ?_ | refine O.cmp rfl rfl rfl rfl rfl ?_
      refine O.nil ?_
      try refine Run.keep [0, 2, 3, 4, 5, 6, 7, 8, 15, 17, 24, 26, 28, 31, 38] rfl rfl ?_
      repeat (first | refine Run.seq ?_ | refine Run.skip ?_)
      first | refine Run.condT rfl rfl ?_ | refine Run.condF rfl rfl ?_ | refine Run.condT rfl (by assumption) ?_ | refine Run.condF rfl (by assumption) ?_
      repeat (first | refine Run.seq ?_ | refine Run.skip ?_ | refine Run.block ?_)
      refine Run.region ?_
      refine O.move rfl rfl ?_
      refine O.move rfl rfl ?_
      refine O.litV hE T27 rfl T5 rfl rfl rfl rfl rfl rfl rfl ?_
      refine O.appV (PV.int .u8) (q := L.take i) (r := [c]) hE T27 rfl T5 rfl rfl rfl rfl rfl newest_pv rfl rfl rfl rfl (by simp; omega) (by simp [maxLen]; omega) rfl ?_
      refine O.assign rfl rfl ?_
      refine O.nil ?_
      try refine Run.keep [0, 2, 3, 4, 5, 6, 7, 8, 15, 17, 24, 26, 28, 31, 38] rfl rfl ?_
      refine ih (i + 1) _ ?_ (by omega) (by omega)
      rw [htk, hq2]
      exact SLe.drop (by repeat (first | exact TmIn.nil | refine TmIn.cons rfl ?_)) (by repeat (first | exact BxIn.nil | refine BxIn.cons rfl ?_)) rfl rfl
  have hi' : i = L.length := by omega
  subst hi'
  rw [List.take_length, hfull]
  repeat (first | refine Run.seq ?_ | refine Run.skip ?_ | refine Run.block ?_)
  refine Run.region ?_
  refine O.move rfl rfl ?_
  refine O.lend (ln := lnD) hE1 rfl rfl rfl (.inl rfl) (by repeat (first | exact BxIn.nil | refine BxIn.cons rfl ?_)) rfl rfl rfl rfl rfl rfl rfl rfl rfl rfl ?_
  refine O.move rfl rfl ?_
  refine O.extract rfl rfl rfl ?_
  refine O.extract rfl rfl rfl ?_
  refine O.assign rfl rfl ?_
  refine O.assign rfl rfl ?_
  refine O.nil ?_
  try refine Run.keep [0, 2, 3, 4, 5, 6, 7, 8, 15, 17, 24, 26, 28, 31, 38] rfl rfl ?_
  repeat (first | refine Run.seq ?_ | refine Run.skip ?_ | refine Run.block ?_)
  refine Run.region ?_
  refine O.move rfl rfl ?_
  refine O.un rfl rfl rfl rfl rfl ?_
  refine O.nil ?_
  try refine Run.keep [0, 2, 3, 4, 5, 6, 7, 8, 15, 17, 24, 26, 28, 31, 38] rfl rfl ?_
  repeat (first | refine Run.seq ?_ | refine Run.skip ?_)
  first | refine Run.condT rfl rfl ?_ | refine Run.condF rfl rfl ?_ | refine Run.condT rfl (by assumption) ?_ | refine Run.condF rfl (by assumption) ?_
  repeat (first | refine Run.seq ?_ | refine Run.skip ?_ | refine Run.block ?_)
  refine Run.region ?_
  refine O.move rfl rfl ?_
  first | refine O.cmp rfl rfl rfl (by first | exact decide_eq_true (by omega) | exact decide_eq_false (by omega)) rfl ?_ | refine O.cmp rfl rfl rfl rfl rfl ?_
  refine O.nil ?_
  try refine Run.keep [0, 2, 3, 4, 5, 6, 7, 8, 15, 17, 24, 26, 28, 31, 38] rfl rfl ?_
  repeat (first | refine Run.seq ?_ | refine Run.skip ?_)
  first | refine Run.condT rfl rfl ?_ | refine Run.condF rfl rfl ?_ | refine Run.condT rfl (by assumption) ?_ | refine Run.condF rfl (by assumption) ?_
  repeat (first | refine Run.seq ?_ | refine Run.skip ?_ | refine Run.block ?_)
  refine Run.region ?_
  refine O.move rfl rfl ?_
  refine O.lend (ln := lnD) hE2 rfl rfl rfl (.inl rfl) (by repeat (first | exact BxIn.nil | refine BxIn.cons rfl ?_)) rfl rfl rfl rfl rfl rfl rfl rfl rfl rfl ?_
  refine O.move rfl rfl ?_
  refine O.extract rfl rfl rfl ?_
  refine O.extract rfl rfl rfl ?_
  refine O.assign rfl rfl ?_
  refine O.assign rfl rfl ?_
  refine O.nil ?_
  try refine Run.keep [0, 2, 3, 4, 5, 6, 7, 8, 15, 17, 24, 26, 28, 31, 38] rfl rfl ?_
  repeat (first | refine Run.seq ?_ | refine Run.skip ?_ | refine Run.block ?_)
  refine Run.region ?_
  refine O.move rfl rfl ?_
  refine O.un rfl rfl rfl rfl rfl ?_
  refine O.nil ?_
  try refine Run.keep [0, 2, 3, 4, 5, 6, 7, 8, 15, 17, 24, 26, 28, 31, 38] rfl rfl ?_
  repeat (first | refine Run.seq ?_ | refine Run.skip ?_)
  first | refine Run.condT rfl rfl ?_ | refine Run.condF rfl rfl ?_ | refine Run.condT rfl (by assumption) ?_ | refine Run.condF rfl (by assumption) ?_
  repeat (first | refine Run.seq ?_ | refine Run.skip ?_ | refine Run.block ?_)
  refine Run.region ?_
  refine O.move rfl rfl ?_
  first | refine O.cmp rfl rfl rfl (by first | exact decide_eq_true (by omega) | exact decide_eq_false (by omega)) rfl ?_ | refine O.cmp rfl rfl rfl rfl rfl ?_
  refine O.nil ?_
  try refine Run.keep [0, 2, 3, 4, 5, 6, 7, 8, 15, 17, 24, 26, 28, 31, 38] rfl rfl ?_
  repeat (first | refine Run.seq ?_ | refine Run.skip ?_)
  first | refine Run.condT rfl rfl ?_ | refine Run.condF rfl rfl ?_ | refine Run.condT rfl (by assumption) ?_ | refine Run.condF rfl (by assumption) ?_
  repeat (first | refine Run.seq ?_ | refine Run.skip ?_ | refine Run.block ?_)
  refine Run.region ?_
  refine O.move rfl rfl ?_
  first | refine O.cmp rfl rfl rfl (by first | exact decide_eq_true (by omega) | exact decide_eq_false (by omega)) rfl ?_ | refine O.cmp rfl rfl rfl rfl rfl ?_
  refine O.nil ?_
  try refine Run.keep [0, 2, 3, 4, 5, 6, 7, 8, 15, 17, 24, 26, 28, 31, 38] rfl rfl ?_
  repeat (first | refine Run.seq ?_ | refine Run.skip ?_)
  first | refine Run.condT rfl rfl ?_ | refine Run.condF rfl rfl ?_ | refine Run.condT rfl (by assumption) ?_ | refine Run.condF rfl (by assumption) ?_
  repeat (first | refine Run.seq ?_ | refine Run.skip ?_ | refine Run.block ?_)
  refine Run.region ?_
  refine O.move rfl rfl ?_
  refine O.lenLst hE T27 rfl rfl rfl (newest_gl rfl (by simp)) rfl ?_; dsimp only
  refine O.cmp (c' := true) rfl rfl rfl (by simp [hL40]) rfl ?_
  refine O.nil ?_
  try refine Run.keep [0, 2, 3, 4, 5, 6, 7, 8, 15, 17, 24, 26, 28, 31, 38] rfl rfl ?_
  repeat (first | refine Run.seq ?_ | refine Run.skip ?_)
  first | refine Run.condT rfl rfl ?_ | refine Run.condF rfl rfl ?_ | refine Run.condT rfl (by assumption) ?_ | refine Run.condF rfl (by assumption) ?_
  repeat (first | refine Run.seq ?_ | refine Run.skip ?_ | refine Run.block ?_)
  refine Run.region ?_
  refine O.assign rfl rfl ?_
  refine O.assign rfl rfl ?_
  refine O.nil ?_
  try refine Run.keep [0, 2, 3, 4, 5, 6, 7, 8, 15, 17, 24, 26, 28, 31, 38] rfl rfl ?_
  refine Run.ret ?_
  repeat (first | refine thenR_ret ?_ | refine roundR_ret ?_ | refine blockR_ret ?_)
  exact Ends.of hE (.inr rfl) rfl rfl (SLe.drop (by repeat (first | exact TmIn.nil | refine TmIn.cons rfl ?_)) (by repeat (first | exact BxIn.nil | refine BxIn.cons rfl ?_)) rfl rfl)
theorem text_valid {s : ByteArray} (hs : s.size ≤ 40) {b r : List Int} {p : Nat} {B : Bool} (hv : validD s.data.toList = false) (hb : b.length ≤ 9223372036854775807) (h : b.drop p = (5 :: (esc (txB s) ++ (0 :: 1 :: r))).map (flipB B)) :
    FnL (EnL Tryd.prog gT lnD) 41 [cloD] (bD b (p + 1) (flB B)) (.tup [.pv (.str ⟨#[]⟩), .pv (.int .i64 3)]) (bD b (p + 1 + (esc (txB s)).length + 2) (flB B)) := by
  have hE := EnLOk gT lnD
  have hL8 : ∀ c ∈ txB s, 0 ≤ c ∧ c < 256 := fun c hc => by
    obtain ⟨u, _, rfl⟩ := List.mem_map.1 hc
    have := u.toNat_lt
    omega
  have hLl : (txB s).length = s.size := by simp [txB]
  have cv := (fnValid (t0 := s.data.toList) (by simpa [txB] using (show (txB s).length ≤ 40 by omega))).lent lnD
  rw [hv, show tb s.data.toList = txB s from rfl] at cv
  have hat : ∀ i c, (esc (txB s) ++ (0 :: 1 :: r))[i]? = some c → 0 ≤ c ∧ c < 256 → FnL (EnL Tryd.prog gT lnD) 29 [.ptr 8 0, .ptr 3 0, .ptr 9 0] (bD b (p + 1 + i) (flB B)) (.tup [.pv (.int .u8 c), .pv (.bool true)]) (bD b (p + 1 + i + 1) (flB B)) := fun i c hc h8 => by
    have := next_fit (g := gT) (i := i + 1) (rest := []) hb (by rw [h, List.append_nil]) (by exact hc) h8
    rwa [show p + (i + 1) = p + 1 + i by omega] at this
  have hE1 := hat _ _ (esc_endT (j := 0) rfl) (by omega)
  rw [Nat.add_zero] at hE1
  have hE2 := hat _ _ (esc_endT (j := 1) rfl) (by omega)
  rw [show p + 1 + ((esc (txB s)).length + 1) = p + 1 + (esc (txB s)).length + 1 by omega] at hE2
  have hstep := fun (i : Nat) (c : Int) (hc : (txB s)[i]? = some c) => esc_headT (tail := (0 :: 1 :: r)) hc
  have hz : (esc ((txB s).take 0)).length = 0 := by rw [List.take_zero]; rfl
  have hfull : (esc ((txB s).take (txB s).length)).length = (esc (txB s)).length := by rw [List.take_length]
  obtain ⟨K, hK⟩ : ∃ K : Nat → Nat, ∀ i, K i = (esc ((txB s).take i)).length := ⟨_, fun _ => rfl⟩
  rw [← hK] at hz hfull
  generalize hEn : (esc (txB s)).length = En' at *
  generalize hLd : txB s = L at *
  generalize flB B = fl at *
  clear h
  refine FnL.of Tryd.func41 rfl rfl rfl rfl ?_
  repeat (first | refine Run.seq ?_ | refine Run.skip ?_ | refine Run.block ?_)
  refine Run.region ?_
  refine O.assign rfl rfl ?_
  refine O.assign rfl rfl ?_
  refine O.nil ?_
  try refine Run.keep [0, 2, 3, 4, 5, 6, 7, 8, 15, 17, 24, 26, 28, 31, 38] rfl rfl ?_
  repeat (first | refine Run.seq ?_ | refine Run.skip ?_ | refine Run.block ?_)
  refine Run.region ?_
  refine O.assign rfl rfl ?_
  refine O.nil ?_
  try refine Run.keep [0, 2, 3, 4, 5, 6, 7, 8, 15, 17, 24, 26, 28, 31, 38] rfl rfl ?_
  refine Run.pre (SLe.nilBox (t := 4) (b := 133) (e := 5) (sz := 1) rfl rfl rfl rfl) ?_
  repeat (first | refine Run.seq ?_ | refine Run.skip ?_)
  refine Run.block ?_
  refine Run.loopInv (ι := Nat) (fun i => i ≤ L.length) (fun i => ⟨41, [(0, cloD), (4, .gl 133 (L.take i).length)], [(8, .var [.pv (.int .i64 ((p + 1 + K i : Nat) : Int))]), (3, .var [.pv (byv b)]), (9, .var [.pv (.int .u8 fl)]), (133, .lst 5 1 ((L.take i).map (PV.int .u8)))]⟩) (fun i => L.length - i) 0 (Nat.zero_le _) ?_ ?_
  ·
    rw [hz]
    exact SLe.drop (by repeat (first | exact TmIn.nil | refine TmIn.cons rfl ?_)) (by repeat (first | exact BxIn.nil | refine BxIn.cons rfl ?_)) rfl rfl
  rintro i hi ih
  by_cases hlt : i < L.length
  ·
    obtain ⟨c, hc⟩ : ∃ c, L[i]? = some c := ⟨_, List.getElem?_eq_getElem hlt⟩
    have hc8 := hL8 c (List.mem_of_getElem? hc)
    obtain ⟨k1, k2, k3⟩ := hstep i c hc
    rw [← hK] at k1 k2 k3
    rw [← hK] at k3
    have cn1 := hat _ _ k1 hc8
    have htk : L.take (i + 1) = L.take i ++ [c] := by rw [List.take_add_one, hc]; rfl
    have hil : (L.take i).length = i := by rw [List.length_take]; omega
    have hilm : ((L.take i).map (PV.int .u8)).length = i := by rw [List.length_map, hil]
    by_cases h0 : c = 0
    ·
      have cn2 := hat _ _ (k2 h0) (by omega)
      rw [if_pos h0] at k3
      subst h0
      have hq1 : p + 1 + (K i + 1) = p + 1 + K i + 1 := by omega
      have hq2 : p + 1 + K (i + 1) = p + 1 + K i + 1 + 1 := by omega
      rw [hq1] at cn2
      repeat (first | refine Run.seq ?_ | refine Run.skip ?_ | refine Run.block ?_)
      refine Run.region ?_
      refine O.move rfl rfl ?_
      refine O.lend (ln := lnD) cn1 rfl rfl rfl (.inl rfl) (by repeat (first | exact BxIn.nil | refine BxIn.cons rfl ?_)) rfl rfl rfl rfl rfl rfl rfl rfl rfl rfl ?_
      refine O.move rfl rfl ?_
      refine O.extract rfl rfl rfl ?_
      refine O.extract rfl rfl rfl ?_
      refine O.assign rfl rfl ?_
      refine O.assign rfl rfl ?_
      refine O.nil ?_
      try refine Run.keep [0, 2, 3, 4, 5, 6, 7, 8, 15, 17, 24, 26, 28, 31, 38] rfl rfl ?_
      repeat (first | refine Run.seq ?_ | refine Run.skip ?_ | refine Run.block ?_)
      refine Run.region ?_
      refine O.move rfl rfl ?_
      refine O.un rfl rfl rfl rfl rfl ?_
      refine O.nil ?_
      try refine Run.keep [0, 2, 3, 4, 5, 6, 7, 8, 15, 17, 24, 26, 28, 31, 38] rfl rfl ?_
      repeat (first | refine Run.seq ?_ | refine Run.skip ?_)
      first | refine Run.condT rfl rfl ?_ | refine Run.condF rfl rfl ?_ | refine Run.condT rfl (by assumption) ?_ | refine Run.condF rfl (by assumption) ?_
      repeat (first | refine Run.seq ?_ | refine Run.skip ?_ | refine Run.block ?_)
      refine Run.region ?_
      refine O.move rfl rfl ?_
      first | refine O.cmp rfl rfl rfl (by first | exact decide_eq_true (by omega) | exact decide_eq_false (by omega)) rfl ?_ | refine O.cmp rfl rfl rfl rfl rfl ?_
      refine O.nil ?_
      try refine Run.keep [0, 2, 3, 4, 5, 6, 7, 8, 15, 17, 24, 26, 28, 31, 38] rfl rfl ?_
      repeat (first | refine Run.seq ?_ | refine Run.skip ?_)
      first | refine Run.condT rfl rfl ?_ | refine Run.condF rfl rfl ?_ | refine Run.condT rfl (by assumption) ?_ | refine Run.condF rfl (by assumption) ?_
      repeat (first | refine Run.seq ?_ | refine Run.skip ?_ | refine Run.block ?_)
      refine Run.region ?_
      refine O.move rfl rfl ?_
      refine O.lend (ln := lnD) cn2 rfl rfl rfl (.inl rfl) (by repeat (first | exact BxIn.nil | refine BxIn.cons rfl ?_)) rfl rfl rfl rfl rfl rfl rfl rfl rfl rfl ?_
      refine O.move rfl rfl ?_
      refine O.extract rfl rfl rfl ?_
      refine O.extract rfl rfl rfl ?_
      refine O.assign rfl rfl ?_
      refine O.assign rfl rfl ?_
      refine O.nil ?_
      try refine Run.keep [0, 2, 3, 4, 5, 6, 7, 8, 15, 17, 24, 26, 28, 31, 38] rfl rfl ?_
      repeat (first | refine Run.seq ?_ | refine Run.skip ?_ | refine Run.block ?_)
      refine Run.region ?_
      refine O.move rfl rfl ?_
      refine O.un rfl rfl rfl rfl rfl ?_
      refine O.nil ?_
      try refine Run.keep [0, 2, 3, 4, 5, 6, 7, 8, 15, 17, 24, 26, 28, 31, 38] rfl rfl ?_
      repeat (first | refine Run.seq ?_ | refine Run.skip ?_)
      first | refine Run.condT rfl rfl ?_ | refine Run.condF rfl rfl ?_ | refine Run.condT rfl (by assumption) ?_ | refine Run.condF rfl (by assumption) ?_
      repeat (first | refine Run.seq ?_ | refine Run.skip ?_ | refine Run.block ?_)
      refine Run.region ?_
      refine O.move rfl rfl ?_
      first | refine O.cmp rfl rfl rfl (by first | exact decide_eq_true (by omega) | exact decide_eq_false (by omega)) rfl ?_ | refine O.cmp rfl rfl rfl rfl rfl ?_
      refine O.nil ?_
      try refine Run.keep [0, 2, 3, 4, 5, 6, 7, 8, 15, 17, 24, 26, 28, 31, 38] rfl rfl ?_
      repeat (first | refine Run.seq ?_ | refine Run.skip ?_)
      first | refine Run.condT rfl rfl ?_ | refine Run.condF rfl rfl ?_ | refine Run.condT rfl (by assumption) ?_ | refine Run.condF rfl (by assumption) ?_
      repeat (first | refine Run.seq ?_ | refine Run.skip ?_ | refine Run.block ?_)
      refine Run.region ?_
      refine O.move rfl rfl ?_
      first | refine O.cmp rfl rfl rfl (by first | exact decide_eq_true (by omega) | exact decide_eq_false (by omega)) rfl ?_ | refine O.cmp rfl rfl rfl rfl rfl ?_
      refine O.nil ?_
      try refine Run.keep [0, 2, 3, 4, 5, 6, 7, 8, 15, 17, 24, 26, 28, 31, 38] rfl rfl ?_
      repeat (first | refine Run.seq ?_ | refine Run.skip ?_)
      first | refine Run.condT rfl rfl ?_ | refine Run.condF rfl rfl ?_ | refine Run.condT rfl (by assumption) ?_ | refine Run.condF rfl (by assumption) ?_
      repeat (first | refine Run.seq ?_ | refine Run.skip ?_ | refine Run.block ?_)
      refine Run.region ?_
      refine O.move rfl rfl ?_
      refine O.lenLst hE T27 rfl rfl rfl (newest_gl rfl (by simp)) rfl ?_; dsimp only
      first | refine O.cmp rfl rfl rfl (by first | exact decide_eq_true (by omega) | exact decide_eq_false (by omega)) rfl ?_ | refine O.cmp rfl rfl rfl rfl rfl ?_
      refine O.nil ?_
      try refine Run.keep [0, 2, 3, 4, 5, 6, 7, 8, 15, 17, 24, 26, 28, 31, 38] rfl rfl ?_
      repeat (first | refine Run.seq ?_ | refine Run.skip ?_)
      first | refine Run.condT rfl rfl ?_ | refine Run.condF rfl rfl ?_ | refine Run.condT rfl (by assumption) ?_ | refine Run.condF rfl (by assumption) ?_
      repeat (first | refine Run.seq ?_ | refine Run.skip ?_ | refine Run.block ?_)
      refine Run.region ?_
      refine O.move rfl rfl ?_
      refine O.move rfl rfl ?_
      refine O.litV hE T27 rfl T5 rfl rfl rfl rfl rfl rfl rfl ?_
      refine O.appV (PV.int .u8) (q := L.take i) (r := [0]) hE T27 rfl T5 rfl rfl rfl rfl rfl newest_pv rfl rfl rfl rfl (by simp; omega) (by simp [maxLen]; omega) rfl ?_
      refine O.assign rfl rfl ?_
      refine O.nil ?_
      try refine Run.keep [0, 2, 3, 4, 5, 6, 7, 8, 15, 17, 24, 26, 28, 31, 38] rfl rfl ?_
      refine ih (i + 1) _ ?_ (by omega) (by omega)
      rw [htk, hq2]
      exact SLe.drop (by repeat (first | exact TmIn.nil | refine TmIn.cons rfl ?_)) (by repeat (first | exact BxIn.nil | refine BxIn.cons rfl ?_)) rfl rfl
    ·
      rw [if_neg h0] at k3
      have hq2 : p + 1 + K (i + 1) = p + 1 + K i + 1 := by omega
      repeat (first | refine Run.seq ?_ | refine Run.skip ?_ | refine Run.block ?_)
      refine Run.region ?_
      refine O.move rfl rfl ?_
      refine O.lend (ln := lnD) cn1 rfl rfl rfl (.inl rfl) (by repeat (first | exact BxIn.nil | refine BxIn.cons rfl ?_)) rfl rfl rfl rfl rfl rfl rfl rfl rfl rfl ?_
      refine O.move rfl rfl ?_
      refine O.extract rfl rfl rfl ?_
      refine O.extract rfl rfl rfl ?_
      refine O.assign rfl rfl ?_
      refine O.assign rfl rfl ?_
      refine O.nil ?_
      try refine Run.keep [0, 2, 3, 4, 5, 6, 7, 8, 15, 17, 24, 26, 28, 31, 38] rfl rfl ?_
      repeat (first | refine Run.seq ?_ | refine Run.skip ?_ | refine Run.block ?_)
      refine Run.region ?_
      refine O.move rfl rfl ?_
      refine O.un rfl rfl rfl rfl rfl ?_
      refine O.nil ?_
      try refine Run.keep [0, 2, 3, 4, 5, 6, 7, 8, 15, 17, 24, 26, 28, 31, 38] rfl rfl ?_
      repeat (first | refine Run.seq ?_ | refine Run.skip ?_)
      first | refine Run.condT rfl rfl ?_ | refine Run.condF rfl rfl ?_ | refine Run.condT rfl (by assumption) ?_ | refine Run.condF rfl (by assumption) ?_
      repeat (first | refine Run.seq ?_ | refine Run.skip ?_ | refine Run.block ?_)
      refine Run.region ?_
      refine O.move rfl rfl ?_
      first | refine O.cmp rfl rfl rfl (by first | exact decide_eq_true (by omega) | exact decide_eq_false (by omega)) rfl ?_ | refine O.cmp rfl rfl rfl rfl rfl ?_
      refine O.nil ?_
      try refine Run.keep [0, 2, 3, 4, 5, 6, 7, 8, 15, 17, 24, 26, 28, 31, 38] rfl rfl ?_
      repeat (first | refine Run.seq ?_ | refine Run.skip ?_)
      first | refine Run.condT rfl rfl ?_ | refine Run.condF rfl rfl ?_ | refine Run.condT rfl (by assumption) ?_ | refine Run.condF rfl (by assumption) ?_
      repeat (first | refine Run.seq ?_ | refine Run.skip ?_ | refine Run.block ?_)
      refine Run.region ?_
      refine O.move rfl rfl ?_
      refine O.lenLst hE T27 rfl rfl rfl (newest_gl rfl (by simp)) rfl ?_; dsimp only
      first | refine O.cmp rfl rfl rfl (by first | exact decide_eq_true (by omega) | exact decide_eq_false (by omega)) rfl ?_ | refine O.cmp rfl rfl rfl rfl rfl ?_
      refine O.nil ?_
      try refine Run.keep [0, 2, 3, 4, 5, 6, 7, 8, 15, 17, 24, 26, 28, 31, 38] rfl rfl ?_
      repeat (first | refine Run.seq ?_ | refine Run.skip ?_)
      first | refine Run.condT rfl rfl ?_ | refine Run.condF rfl rfl ?_ | refine Run.condT rfl (by assumption) ?_ | refine Run.condF rfl (by assumption) ?_
      repeat (first | refine Run.seq ?_ | refine Run.skip ?_ | refine Run.block ?_)
      refine Run.region ?_
      refine O.move rfl rfl ?_
      refine O.move rfl rfl ?_
      refine O.litV hE T27 rfl T5 rfl rfl rfl rfl rfl rfl rfl ?_
      refine O.appV (PV.int .u8) (q := L.take i) (r := [c]) hE T27 rfl T5 rfl rfl rfl rfl rfl newest_pv rfl rfl rfl rfl (by simp; omega) (by simp [maxLen]; omega) rfl ?_
      refine O.assign rfl rfl ?_
      refine O.nil ?_
      try refine Run.keep [0, 2, 3, 4, 5, 6, 7, 8, 15, 17, 24, 26, 28, 31, 38] rfl rfl ?_
      refine ih (i + 1) _ ?_ (by omega) (by omega)
      rw [htk, hq2]
      exact SLe.drop (by repeat (first | exact TmIn.nil | refine TmIn.cons rfl ?_)) (by repeat (first | exact BxIn.nil | refine BxIn.cons rfl ?_)) rfl rfl
  have hi' : i = L.length := by omega
  subst hi'
  rw [List.take_length, hfull]
  repeat (first | refine Run.seq ?_ | refine Run.skip ?_ | refine Run.block ?_)
  refine Run.region ?_
  refine O.move rfl rfl ?_
  refine O.lend (ln := lnD) hE1 rfl rfl rfl (.inl rfl) (by repeat (first | exact BxIn.nil | refine BxIn.cons rfl ?_)) rfl rfl rfl rfl rfl rfl rfl rfl rfl rfl ?_
  refine O.move rfl rfl ?_
  refine O.extract rfl rfl rfl ?_
  refine O.extract rfl rfl rfl ?_
  refine O.assign rfl rfl ?_
  refine O.assign rfl rfl ?_
  refine O.nil ?_
  try refine Run.keep [0, 2, 3, 4, 5, 6, 7, 8, 15, 17, 24, 26, 28, 31, 38] rfl rfl ?_
  repeat (first | refine Run.seq ?_ | refine Run.skip ?_ | refine Run.block ?_)
  refine Run.region ?_
  refine O.move rfl rfl ?_
  refine O.un rfl rfl rfl rfl rfl ?_
  refine O.nil ?_
  try refine Run.keep [0, 2, 3, 4, 5, 6, 7, 8, 15, 17, 24, 26, 28, 31, 38] rfl rfl ?_
  repeat (first | refine Run.seq ?_ | refine Run.skip ?_)
  first | refine Run.condT rfl rfl ?_ | refine Run.condF rfl rfl ?_ | refine Run.condT rfl (by assumption) ?_ | refine Run.condF rfl (by assumption) ?_
  repeat (first | refine Run.seq ?_ | refine Run.skip ?_ | refine Run.block ?_)
  refine Run.region ?_
  refine O.move rfl rfl ?_
  first | refine O.cmp rfl rfl rfl (by first | exact decide_eq_true (by omega) | exact decide_eq_false (by omega)) rfl ?_ | refine O.cmp rfl rfl rfl rfl rfl ?_
  refine O.nil ?_
  try refine Run.keep [0, 2, 3, 4, 5, 6, 7, 8, 15, 17, 24, 26, 28, 31, 38] rfl rfl ?_
  repeat (first | refine Run.seq ?_ | refine Run.skip ?_)
  first | refine Run.condT rfl rfl ?_ | refine Run.condF rfl rfl ?_ | refine Run.condT rfl (by assumption) ?_ | refine Run.condF rfl (by assumption) ?_
  repeat (first | refine Run.seq ?_ | refine Run.skip ?_ | refine Run.block ?_)
  refine Run.region ?_
  refine O.move rfl rfl ?_
  refine O.lend (ln := lnD) hE2 rfl rfl rfl (.inl rfl) (by repeat (first | exact BxIn.nil | refine BxIn.cons rfl ?_)) rfl rfl rfl rfl rfl rfl rfl rfl rfl rfl ?_
  refine O.move rfl rfl ?_
  refine O.extract rfl rfl rfl ?_
  refine O.extract rfl rfl rfl ?_
  refine O.assign rfl rfl ?_
  refine O.assign rfl rfl ?_
  refine O.nil ?_
  try refine Run.keep [0, 2, 3, 4, 5, 6, 7, 8, 15, 17, 24, 26, 28, 31, 38] rfl rfl ?_
  repeat (first | refine Run.seq ?_ | refine Run.skip ?_ | refine Run.block ?_)
  refine Run.region ?_
  refine O.move rfl rfl ?_
  refine O.un rfl rfl rfl rfl rfl ?_
  refine O.nil ?_
  try refine Run.keep [0, 2, 3, 4, 5, 6, 7, 8, 15, 17, 24, 26, 28, 31, 38] rfl rfl ?_
  repeat (first | refine Run.seq ?_ | refine Run.skip ?_)
  first | refine Run.condT rfl rfl ?_ | refine Run.condF rfl rfl ?_ | refine Run.condT rfl (by assumption) ?_ | refine Run.condF rfl (by assumption) ?_
  repeat (first | refine Run.seq ?_ | refine Run.skip ?_ | refine Run.block ?_)
  refine Run.region ?_
  refine O.move rfl rfl ?_
  first | refine O.cmp rfl rfl rfl (by first | exact decide_eq_true (by omega) | exact decide_eq_false (by omega)) rfl ?_ | refine O.cmp rfl rfl rfl rfl rfl ?_
  refine O.nil ?_
  try refine Run.keep [0, 2, 3, 4, 5, 6, 7, 8, 15, 17, 24, 26, 28, 31, 38] rfl rfl ?_
  repeat (first | refine Run.seq ?_ | refine Run.skip ?_)
  first | refine Run.condT rfl rfl ?_ | refine Run.condF rfl rfl ?_ | refine Run.condT rfl (by assumption) ?_ | refine Run.condF rfl (by assumption) ?_
  refine Run.exit ?_
  repeat (first | refine thenR_exit ?_ | refine roundR_exit ?_ | refine blockR_exit ?_ | refine blockR_pass rfl ?_)
  refine Run.pre (s1 := ⟨41, [(4, .pv (byv L))], bD b (p + 1 + En' + 1 + 1) fl⟩) ?_ ?_
  ·
    refine SLe.by rfl ?_ ?_ rfl rfl <;> repeat (first | exact TmLe.nil | exact BxsLe.nil | refine TmLe.cons (AVle.of_eq rfl) ?_ | refine TmLe.cons (AVle.lst _ _ _ (lstOf_glV rfl (by simp))) ?_ | refine BxsLe.cons rfl (.refl _) ?_)
  repeat (first | refine Run.seq ?_ | refine Run.skip ?_ | refine Run.block ?_)
  refine Run.region ?_
  refine O.move rfl rfl ?_
  refine O.callE cv rfl (by first | rfl | simp [closed, men3, mens2_app, mens2_ints, mens2, men2, men1, mens1_app, mens1_ints, mens1]) (by first | rfl | simp [d2, ds1_ints, ds1_app, ds1, d1, ds0_app, ds0_ints, ds0, d0]) rfl ?_
  refine O.un rfl rfl rfl rfl rfl ?_
  refine O.nil ?_
  try refine Run.keep [0, 2, 3, 4, 5, 6, 7, 8, 15, 17, 24, 26, 28, 31, 38] rfl rfl ?_
  repeat (first | refine Run.seq ?_ | refine Run.skip ?_)
  first | refine Run.condT rfl rfl ?_ | refine Run.condF rfl rfl ?_ | refine Run.condT rfl (by assumption) ?_ | refine Run.condF rfl (by assumption) ?_
  repeat (first | refine Run.seq ?_ | refine Run.skip ?_ | refine Run.block ?_)
  refine Run.region ?_
  refine O.assign rfl rfl ?_
  refine O.assign rfl rfl ?_
  refine O.nil ?_
  try refine Run.keep [0, 2, 3, 4, 5, 6, 7, 8, 15, 17, 24, 26, 28, 31, 38] rfl rfl ?_
  refine Run.ret ?_
  repeat (first | refine thenR_ret ?_ | refine roundR_ret ?_ | refine blockR_ret ?_)
  exact Ends.of hE (.inr rfl) rfl rfl (SLe.drop (by repeat (first | exact TmIn.nil | refine TmIn.cons rfl ?_)) (by repeat (first | exact BxIn.nil | refine BxIn.cons rfl ?_)) rfl rfl)
theorem bad_text {b s : List Int} {p q : Nat} {B : Bool} {e : Int} (he : e ≠ 0) (hb : b.length ≤ 9223372036854775807) (h : b.drop p = (5 :: s).map (flipB B)) (c2 : FnL (EnL Tryd.prog g lnD) 41 [cloD] (bD b (p + 1) (flB B)) (.tup [.pv (.str ⟨#[]⟩), .pv (.int .i64 e)]) (bD b q (flB B))) : ReadBad g b p B := by
  refine ⟨e, q, he, ?_⟩
  have hE := EnLOk g lnD
  have c1 := next_fit (g := g) (i := 0) (rest := []) hb (by rw [h, List.append_nil]) rfl (by omega)
  rw [Nat.add_zero] at c1
  generalize flB B = fl at *
  clear h
  refine FnL.of Tryd.func30 rfl rfl rfl rfl ?_
  repeat (first | refine Run.seq ?_ | refine Run.skip ?_ | refine Run.block ?_)
  refine Run.region ?_
  refine O.alloc hE 2 T60 rfl rfl rfl ?_
  refine O.assign rfl rfl ?_
  refine O.nil ?_
  try refine Run.keep [0, 2, 3, 4, 5, 6, 7, 8, 9, 10, 11, 12, 13, 20, 27, 29, 32, 40, 45, 48, 49, 56, 66, 74, 82, 89] rfl rfl ?_
  repeat (first | refine Run.seq ?_ | refine Run.skip ?_ | refine Run.block ?_)
  refine Run.region ?_
  refine O.move rfl rfl ?_
  refine O.lend (ln := lnD) c1 rfl rfl rfl (.inl rfl) (by repeat (first | exact BxIn.nil | refine BxIn.cons rfl ?_)) rfl rfl rfl rfl rfl rfl rfl rfl rfl rfl ?_
  refine O.move rfl rfl ?_
  refine O.extract rfl rfl rfl ?_
  refine O.extract rfl rfl rfl ?_
  refine O.assign rfl rfl ?_
  refine O.assign rfl rfl ?_
  refine O.nil ?_
  try refine Run.keep [0, 2, 3, 4, 5, 6, 7, 8, 9, 10, 11, 12, 13, 20, 27, 29, 32, 40, 45, 48, 49, 56, 66, 74, 82, 89] rfl rfl ?_
  repeat (first | refine Run.seq ?_ | refine Run.skip ?_ | refine Run.block ?_)
  refine Run.region ?_
  refine O.move rfl rfl ?_
  refine O.un rfl rfl rfl rfl rfl ?_
  refine O.nil ?_
  try refine Run.keep [0, 2, 3, 4, 5, 6, 7, 8, 9, 10, 11, 12, 13, 20, 27, 29, 32, 40, 45, 48, 49, 56, 66, 74, 82, 89] rfl rfl ?_
  repeat (first | refine Run.seq ?_ | refine Run.skip ?_)
  first | refine Run.condT rfl rfl ?_ | refine Run.condF rfl rfl ?_ | refine Run.condT rfl (by assumption) ?_ | refine Run.condF rfl (by assumption) ?_
  repeat (first | refine Run.seq ?_ | refine Run.skip ?_ | refine Run.block ?_)
  refine Run.region ?_
  refine O.move rfl rfl ?_
  refine O.conv hE T5 T3 rfl rfl rfl ?_
  first | refine O.ar rfl rfl rfl (by exact wrap_i64 (by omega) (by omega)) rfl ?_ | refine O.ar rfl rfl rfl rfl rfl ?_
  refine O.build hE T60 L60 rfl rfl rfl ?_
  refine O.alloc hE 6 T60 rfl rfl rfl ?_
  refine O.store hE T60 rfl rfl rfl rfl rfl rfl ?_
  refine O.nil ?_
  try refine Run.keep [0, 2, 3, 4, 5, 6, 7, 8, 9, 10, 11, 12, 13, 20, 27, 29, 32, 40, 45, 48, 49, 56, 66, 74, 82, 89] rfl rfl ?_
  repeat (first | refine Run.seq ?_ | refine Run.skip ?_ | refine Run.block ?_)
  refine Run.region ?_
  refine O.field hE L60 rfl rfl rfl rfl ?_
  first | refine O.loadS hE T3 rfl rfl rfl (by rfl) rfl ?_ | refine O.loadE hE T3 rfl rfl (by rfl) rfl ?_ | refine O.load hE T3 rfl rfl rfl rfl ?_
  refine O.nil ?_
  try refine Run.keep [0, 2, 3, 4, 5, 6, 7, 8, 9, 10, 11, 12, 13, 20, 27, 29, 32, 40, 45, 48, 49, 56, 66, 74, 82, 89] rfl rfl ?_
  repeat (first | refine Run.seq ?_ | refine Run.skip ?_ | refine Run.block ?_)
  refine Run.region ?_
  first | refine O.cmp rfl rfl rfl (by first | exact decide_eq_true (by omega) | exact decide_eq_false (by omega)) rfl ?_ | refine O.cmp rfl rfl rfl rfl rfl ?_
  refine O.assign rfl rfl ?_
  refine O.nil ?_
  try refine Run.keep [0, 2, 3, 4, 5, 6, 7, 8, 9, 10, 11, 12, 13, 20, 27, 29, 32, 40, 45, 48, 49, 56, 66, 74, 82, 89] rfl rfl ?_
  repeat (first | refine Run.seq ?_ | refine Run.skip ?_)
  first | refine Run.condT rfl rfl ?_ | refine Run.condF rfl rfl ?_ | refine Run.condT rfl (by assumption) ?_ | refine Run.condF rfl (by assumption) ?_
  repeat (first | refine Run.seq ?_ | refine Run.skip ?_ | refine Run.block ?_)
  refine Run.region ?_
  first | refine O.cmp rfl rfl rfl (by first | exact decide_eq_true (by omega) | exact decide_eq_false (by omega)) rfl ?_ | refine O.cmp rfl rfl rfl rfl rfl ?_
  refine O.assign rfl rfl ?_
  refine O.nil ?_
  try refine Run.keep [0, 2, 3, 4, 5, 6, 7, 8, 9, 10, 11, 12, 13, 20, 27, 29, 32, 40, 45, 48, 49, 56, 66, 74, 82, 89] rfl rfl ?_
  repeat (first | refine Run.seq ?_ | refine Run.skip ?_)
  first | refine Run.condT rfl rfl ?_ | refine Run.condF rfl rfl ?_ | refine Run.condT rfl (by assumption) ?_ | refine Run.condF rfl (by assumption) ?_
  repeat (first | refine Run.seq ?_ | refine Run.skip ?_ | refine Run.block ?_)
  refine Run.region ?_
  first | refine O.cmp rfl rfl rfl (by first | exact decide_eq_true (by omega) | exact decide_eq_false (by omega)) rfl ?_ | refine O.cmp rfl rfl rfl rfl rfl ?_
  refine O.assign rfl rfl ?_
  refine O.nil ?_
  try refine Run.keep [0, 2, 3, 4, 5, 6, 7, 8, 9, 10, 11, 12, 13, 20, 27, 29, 32, 40, 45, 48, 49, 56, 66, 74, 82, 89] rfl rfl ?_
  repeat (first | refine Run.seq ?_ | refine Run.skip ?_)
  first | refine Run.condT rfl rfl ?_ | refine Run.condF rfl rfl ?_ | refine Run.condT rfl (by assumption) ?_ | refine Run.condF rfl (by assumption) ?_
  repeat (first | refine Run.seq ?_ | refine Run.skip ?_ | refine Run.block ?_)
  refine Run.region ?_
  first | refine O.cmp rfl rfl rfl (by first | exact decide_eq_true (by omega) | exact decide_eq_false (by omega)) rfl ?_ | refine O.cmp rfl rfl rfl rfl rfl ?_
  refine O.assign rfl rfl ?_
  refine O.nil ?_
  try refine Run.keep [0, 2, 3, 4, 5, 6, 7, 8, 9, 10, 11, 12, 13, 20, 27, 29, 32, 40, 45, 48, 49, 56, 66, 74, 82, 89] rfl rfl ?_
  repeat (first | refine Run.seq ?_ | refine Run.skip ?_)
  first | refine Run.condT rfl rfl ?_ | refine Run.condF rfl rfl ?_ | refine Run.condT rfl (by assumption) ?_ | refine Run.condF rfl (by assumption) ?_
  repeat (first | refine Run.seq ?_ | refine Run.skip ?_ | refine Run.block ?_)
  refine Run.region ?_
  first | refine O.cmp rfl rfl rfl (by first | exact decide_eq_true (by omega) | exact decide_eq_false (by omega)) rfl ?_ | refine O.cmp rfl rfl rfl rfl rfl ?_
  refine O.assign rfl rfl ?_
  refine O.nil ?_
  try refine Run.keep [0, 2, 3, 4, 5, 6, 7, 8, 9, 10, 11, 12, 13, 20, 27, 29, 32, 40, 45, 48, 49, 56, 66, 74, 82, 89] rfl rfl ?_
  repeat (first | refine Run.seq ?_ | refine Run.skip ?_)
  first | refine Run.condT rfl rfl ?_ | refine Run.condF rfl rfl ?_ | refine Run.condT rfl (by assumption) ?_ | refine Run.condF rfl (by assumption) ?_
  repeat (first | refine Run.seq ?_ | refine Run.skip ?_ | refine Run.block ?_)
  refine Run.region ?_
  refine O.move rfl rfl ?_
  refine O.lend (ln := lnD) c2 rfl rfl rfl (.inr (fun x hx => by rw [List.mem_singleton.1 hx]; rfl)) (by repeat (first | exact BxIn.nil | refine BxIn.cons rfl ?_)) rfl rfl rfl rfl rfl rfl rfl rfl rfl rfl ?_
  refine O.move rfl rfl ?_
  refine O.extract rfl rfl rfl ?_
  refine O.extract rfl rfl rfl ?_
  refine O.assign rfl rfl ?_
  refine O.assign rfl rfl ?_
  refine O.nil ?_
  try refine Run.keep [0, 2, 3, 4, 5, 6, 7, 8, 9, 10, 11, 12, 13, 20, 27, 29, 32, 40, 45, 48, 49, 56, 66, 74, 82, 89] rfl rfl ?_
  repeat (first | refine Run.seq ?_ | refine Run.skip ?_ | refine Run.block ?_)
  refine Run.region ?_
  refine O.move rfl rfl ?_
  refine O.cmp (c' := true) rfl rfl rfl (by simpa using he) rfl ?_
  refine O.nil ?_
  try refine Run.keep [0, 2, 3, 4, 5, 6, 7, 8, 9, 10, 11, 12, 13, 20, 27, 29, 32, 40, 45, 48, 49, 56, 66, 74, 82, 89] rfl rfl ?_
  repeat (first | refine Run.seq ?_ | refine Run.skip ?_)
  first | refine Run.condT rfl rfl ?_ | refine Run.condF rfl rfl ?_ | refine Run.condT rfl (by assumption) ?_ | refine Run.condF rfl (by assumption) ?_
  repeat (first | refine Run.seq ?_ | refine Run.skip ?_ | refine Run.block ?_)
  refine Run.region ?_
  refine O.build hE T60 L60 rfl rfl rfl ?_
  refine O.move rfl rfl ?_
  refine O.store hE T60 rfl rfl rfl rfl rfl rfl ?_
  refine O.assign rfl rfl ?_
  refine O.nil ?_
  try refine Run.keep [0, 2, 3, 4, 5, 6, 7, 8, 9, 10, 11, 12, 13, 20, 27, 29, 32, 40, 45, 48, 49, 56, 66, 74, 82, 89] rfl rfl ?_
  refine Run.ret ?_
  repeat (first | refine thenR_ret ?_ | refine roundR_ret ?_ | refine blockR_ret ?_)
  exact Ends.of hE (.inr rfl) rfl rfl (SLe.drop (by repeat (first | exact TmIn.nil | refine TmIn.cons rfl ?_)) (by repeat (first | exact BxIn.nil | refine BxIn.cons rfl ?_)) rfl rfl)
end Go.Proofs.YtalcpfpjkfpmbaaDoor.Vm
