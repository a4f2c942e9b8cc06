/- A text packed and fed: what wireTells asks. Conditions: none. -/
import Derived.Test.YtalcpfpjkfpmbaaDoorAppS
import Derived.Test.YtalcpfpjkfpmbaaDoorCodeE
namespace Go.Proofs.YtalcpfpjkfpmbaaDoor.Vm
open Go Go.RowKit
set_option linter.unusedVariables false
set_option linter.unusedSimpArgs false
attribute [local irreducible] Ops Dr Run
variable {g : Nat → Option (List PV)}
def outX : Nat → List PV
  | 0 => []
  | _ => [.int .u8 0, .int .u8 1, .int .u8 120]
theorem fnPackX : FnC (En Tryd.prog g) 23 [.pv (.lst 1 [.str ⟨#[120]⟩])] (.tup [.pv (byv [0, 1, 120]), .pv (.int .i64 0)]) [] := by
  have hE := EnOk g
  refine FnC.of Tryd.func23 rfl rfl rfl rfl ?_
  repeat (first | refine Run.seq ?_ | refine Run.skip ?_ | refine Run.block ?_)
  refine Run.region ?_
  refine O.assign rfl rfl ?_
  refine O.assign rfl rfl ?_
  refine O.nil ?_
  try refine Run.keep [0, 2, 3, 4, 6, 9, 10, 11, 12, 13, 18] rfl rfl ?_
  repeat (first | refine Run.seq ?_ | refine Run.skip ?_ | refine Run.block ?_)
  refine Run.region ?_
  refine O.move rfl rfl ?_
  refine O.lenN (m := 1) hE T67 rfl rfl rfl newest_pv rfl rfl ?_
  first | refine O.cmp rfl rfl rfl (by first | exact decide_eq_true (by omega) | exact decide_eq_false (by omega)) rfl ?_ | refine O.cmp rfl rfl rfl rfl rfl ?_
  refine O.nil ?_
  try refine Run.keep [0, 2, 3, 4, 6, 9, 10, 11, 12, 13, 18] rfl rfl ?_
  repeat (first | refine Run.seq ?_ | refine Run.skip ?_)
  first | refine Run.condT rfl rfl ?_ | refine Run.condF rfl rfl ?_ | refine Run.condT rfl (by assumption) ?_ | refine Run.condF rfl (by assumption) ?_
  repeat (first | refine Run.seq ?_ | refine Run.skip ?_ | refine Run.block ?_)
  refine Run.region ?_
  refine O.assign rfl rfl ?_
  refine O.nil ?_
  try refine Run.keep [0, 2, 3, 4, 6, 9, 10, 11, 12, 13, 18] rfl rfl ?_
  repeat (first | refine Run.seq ?_ | refine Run.skip ?_ | refine Run.block ?_)
  refine Run.region ?_
  refine O.move rfl rfl ?_
  refine O.lenN (m := 1) hE T67 rfl rfl rfl newest_pv rfl rfl ?_
  refine O.move rfl rfl ?_
  refine O.nil ?_
  try refine Run.keep [0, 2, 3, 4, 6, 9, 10, 11, 12, 13, 18] rfl rfl ?_
  refine Run.pre (SLe.nilBox (t := 4) (b := 140) (e := 5) (sz := 1) rfl rfl rfl rfl) ?_
  repeat (first | refine Run.seq ?_ | refine Run.skip ?_)
  refine Run.block ?_
  refine Run.loopInv (ι := Nat) (fun j => j ≤ 1) (fun j => ⟨33, [(4, .gl 140 (outX j).length), (10, .pv (.lst 1 [.str ⟨#[120]⟩])), (11, .pv (.int .i64 1)), (12, .pv (.int .i64 (j : Int)))], [(140, .lst 5 1 (outX j))]⟩) (fun j => 1 - j) 0 (Nat.zero_le _) ?_ ?_
  ·
    exact SLe.drop (by repeat (first | exact TmIn.nil | refine TmIn.cons rfl ?_)) (by repeat (first | exact BxIn.nil | refine BxIn.cons rfl ?_)) rfl rfl
  rintro j hj ih
  rcases (by omega : j = 0 ∨ j = 1) with rfl | rfl
  ·
    repeat (first | refine Run.seq ?_ | refine Run.skip ?_ | refine Run.block ?_)
    refine Run.region ?_
    first | refine O.cmp rfl rfl rfl (by first | exact decide_eq_true (by omega) | exact decide_eq_false (by omega)) rfl ?_ | refine O.cmp rfl rfl rfl rfl rfl ?_
    refine O.nil ?_
    try refine Run.keep [0, 2, 3, 4, 6, 9, 10, 11, 12, 13, 18] rfl rfl ?_
    repeat (first | refine Run.seq ?_ | refine Run.skip ?_)
    first | refine Run.condT rfl rfl ?_ | refine Run.condF rfl rfl ?_ | refine Run.condT rfl (by assumption) ?_ | refine Run.condF rfl (by assumption) ?_
    repeat (first | refine Run.seq ?_ | refine Run.skip ?_ | refine Run.block ?_)
    refine Run.region ?_
    refine O.index (el := .str ⟨#[120]⟩) hE T67 rfl T9 rfl rfl newest_pv rfl (by omega) rfl rfl rfl rfl ?_
    first | refine O.loadS hE T9 rfl rfl rfl (by rfl) rfl ?_ | refine O.loadE hE T9 rfl rfl (by rfl) rfl ?_ | refine O.load hE T9 rfl rfl rfl rfl ?_
    refine O.assign rfl rfl ?_
    refine O.nil ?_
    try refine Run.keep [0, 2, 3, 4, 6, 9, 10, 11, 12, 13, 18] rfl rfl ?_
    repeat (first | refine Run.seq ?_ | refine Run.skip ?_ | refine Run.block ?_)
    refine Run.region ?_
    refine O.move rfl rfl ?_
    refine O.lenStr hE T9 rfl rfl rfl ?_
    first | refine O.cmp rfl rfl rfl (by first | exact decide_eq_true (by omega) | exact decide_eq_false (by omega)) rfl ?_ | refine O.cmp rfl rfl rfl rfl rfl ?_
    refine O.nil ?_
    try refine Run.keep [0, 2, 3, 4, 6, 9, 10, 11, 12, 13, 18] rfl rfl ?_
    repeat (first | refine Run.seq ?_ | refine Run.skip ?_)
    first | refine Run.condT rfl rfl ?_ | refine Run.condF rfl rfl ?_ | refine Run.condT rfl (by assumption) ?_ | refine Run.condF rfl (by assumption) ?_
    repeat (first | refine Run.seq ?_ | refine Run.skip ?_ | refine Run.block ?_)
    refine Run.region ?_
    refine O.move rfl rfl ?_
    refine O.move rfl rfl ?_
    refine O.lenStr hE T9 rfl rfl rfl ?_
    refine O.shrQ (q := 0) rfl rfl (by omega) (by decide +kernel) rfl ?_
    refine O.convQ (q := 0) hE T3 T5 rfl rfl (by decide) rfl ?_
    refine O.move rfl rfl ?_
    refine O.lenStr hE T9 rfl rfl rfl ?_
    refine O.convQ (q := 1) hE T3 T5 rfl rfl (by decide) rfl ?_
    refine O.litV hE T27 rfl T5 rfl rfl rfl rfl rfl rfl rfl ?_
    refine O.append (zs := [.int .u8 0, .int .u8 1]) hE T27 rfl T5 rfl rfl rfl rfl rfl newest_pv rfl rfl rfl rfl (by decide) (by decide) rfl rfl ?_
    refine O.move rfl rfl ?_
    refine O.appStr (zs := [.int .u8 0, .int .u8 1, .int .u8 120]) hE T27 rfl T5 T9 rfl rfl rfl rfl rfl rfl rfl rfl (by kernel_rfl) rfl rfl (by decide) (by decide) rfl rfl ?_
    refine O.assign rfl rfl ?_
    refine O.nil ?_
    try refine Run.keep [0, 2, 3, 4, 6, 9, 10, 11, 12, 13, 18] rfl rfl ?_
    repeat (first | refine Run.seq ?_ | refine Run.skip ?_ | refine Run.block ?_)
    refine Run.region ?_
    first | refine O.ar rfl rfl rfl (by exact wrap_i64 (by omega) (by omega)) rfl ?_ | refine O.ar rfl rfl rfl rfl rfl ?_
    refine O.move rfl rfl ?_
    refine O.nil ?_
    try refine Run.keep [0, 2, 3, 4, 6, 9, 10, 11, 12, 13, 18] rfl rfl ?_
    refine ih 1 _ ?_ (by omega) (by omega)
    exact SLe.drop (by repeat (first | exact TmIn.nil | refine TmIn.cons rfl ?_)) (by repeat (first | exact BxIn.nil | refine BxIn.cons rfl ?_)) rfl rfl
  repeat (first | refine Run.seq ?_ | refine Run.skip ?_ | refine Run.block ?_)
  refine Run.region ?_
  first | refine O.cmp rfl rfl rfl (by first | exact decide_eq_true (by omega) | exact decide_eq_false (by omega)) rfl ?_ | refine O.cmp rfl rfl rfl rfl rfl ?_
  refine O.nil ?_
  try refine Run.keep [0, 2, 3, 4, 6, 9, 10, 11, 12, 13, 18] rfl rfl ?_
  repeat (first | refine Run.seq ?_ | refine Run.skip ?_)
  first | refine Run.condT rfl rfl ?_ | refine Run.condF rfl rfl ?_ | refine Run.condT rfl (by assumption) ?_ | refine Run.condF rfl (by assumption) ?_
  refine Run.exit ?_
  repeat (first | refine thenR_exit ?_ | refine roundR_exit ?_ | refine blockR_exit ?_ | refine blockR_pass rfl ?_)
  repeat (first | refine Run.seq ?_ | refine Run.skip ?_ | refine Run.block ?_)
  refine Run.region ?_
  refine O.move rfl rfl ?_
  refine O.assign rfl rfl ?_
  refine O.assign rfl rfl ?_
  refine O.nil ?_
  try refine Run.keep [0, 2, 3, 4, 6, 9, 10, 11, 12, 13, 18] rfl rfl ?_
  refine Run.ret ?_
  exact Ends.of hE (.inr rfl) rfl rfl (SLe.res0 (AVle.tups (.cons (AVle.lst _ _ _ rfl) (.cons (AVle.of_eq rfl) .nil))) rfl)
def allX : Nat → List PV
  | 0 => [.int .u8 0, .int .u8 1, .int .u8 120]
  | _ => []
def txtX : Nat → List PV
  | 0 => []
  | _ => [.str (strOfNums [120])]
theorem fnFeedX : FnC (En Tryd.prog g) 24 [.pv (.lst 1 []), .pv (byv [0, 1, 120])] (.tup [.pv (.lst 1 [.str (strOfNums [120])]), .pv (.lst 1 []), .pv (.int .i64 0)]) [] := by
  have hE := EnOk g
  refine FnC.of Tryd.func24 rfl rfl rfl rfl ?_
  repeat (first | refine Run.seq ?_ | refine Run.skip ?_ | refine Run.block ?_)
  refine Run.region ?_
  refine O.assign rfl rfl ?_
  refine O.assign rfl rfl ?_
  refine O.assign rfl rfl ?_
  refine O.nil ?_
  try refine Run.keep [0, 1, 4, 5, 6, 7, 8, 9, 12, 20, 32, 37] rfl rfl ?_
  repeat (first | refine Run.seq ?_ | refine Run.skip ?_ | refine Run.block ?_)
  refine Run.region ?_
  refine O.move rfl rfl ?_
  refine O.lenN (m := 0) hE T27 rfl rfl rfl newest_pv rfl rfl ?_
  first | refine O.cmp rfl rfl rfl (by first | exact decide_eq_true (by omega) | exact decide_eq_false (by omega)) rfl ?_ | refine O.cmp rfl rfl rfl rfl rfl ?_
  refine O.nil ?_
  try refine Run.keep [0, 1, 4, 5, 6, 7, 8, 9, 12, 20, 32, 37] rfl rfl ?_
  repeat (first | refine Run.seq ?_ | refine Run.skip ?_)
  first | refine Run.condT rfl rfl ?_ | refine Run.condF rfl rfl ?_ | refine Run.condT rfl (by assumption) ?_ | refine Run.condF rfl (by assumption) ?_
  repeat (first | refine Run.seq ?_ | refine Run.skip ?_ | refine Run.block ?_)
  refine Run.region ?_
  refine O.lit hE 13 T27 rfl T5 rfl rfl (xs := []) rfl rfl rfl rfl rfl rfl ?_
  refine O.move rfl rfl ?_
  refine O.append (zs := []) hE T27 rfl T5 rfl rfl rfl rfl rfl newest_pv rfl rfl rfl rfl (by decide) (by decide) rfl rfl ?_
  refine O.move rfl rfl ?_
  refine O.append (zs := [.int .u8 0, .int .u8 1, .int .u8 120]) hE T27 rfl T5 rfl rfl rfl rfl rfl newest_pv rfl rfl rfl rfl (by decide) (by decide) rfl rfl ?_
  refine O.assign rfl rfl ?_
  refine O.nil ?_
  try refine Run.keep [0, 1, 4, 5, 6, 7, 8, 9, 12, 20, 32, 37] rfl rfl ?_
  repeat (first | refine Run.seq ?_ | refine Run.skip ?_ | refine Run.block ?_)
  refine Run.region ?_
  refine O.assign rfl rfl ?_
  refine O.nil ?_
  try refine Run.keep [0, 1, 4, 5, 6, 7, 8, 9, 12, 20, 32, 37] rfl rfl ?_
  refine Run.pre (s1 := ⟨54, [(7, .pv (.lst 1 (allX 0))), (8, .pv .nil)], []⟩) ?_ ?_
  ·
    refine SLe.by rfl ?_ .nil rfl rfl
    exact TmLe.cons (AVle.lst _ _ _ rfl) (TmLe.cons (AVle.of_eq rfl) .nil)
  refine Run.pre (SLe.nilBox (t := 8) (b := 140) (e := 9) (sz := 1) rfl rfl rfl rfl) ?_
  repeat (first | refine Run.seq ?_ | refine Run.skip ?_)
  refine Run.block ?_
  refine Run.loopInv (ι := Nat) (fun j => j ≤ 1) (fun j => ⟨54, [(7, .pv (.lst 1 (allX j))), (8, .gl 140 (txtX j).length)], [(140, .lst 9 1 (txtX j))]⟩) (fun j => 1 - j) 0 (Nat.zero_le _) ?_ ?_
  ·
    exact SLe.drop (by repeat (first | exact TmIn.nil | refine TmIn.cons rfl ?_)) (by repeat (first | exact BxIn.nil | refine BxIn.cons rfl ?_)) rfl rfl
  rintro j hj ih
  rcases (by omega : j = 0 ∨ j = 1) with rfl | rfl
  ·
    have h8 : IntKind.i64.wrap ((0 : Int) * 2 ^ (min (Int.toNat 8) IntKind.i64.bits)) = 0 * 256 := by decide +kernel
    repeat (first | refine Run.seq ?_ | refine Run.skip ?_ | refine Run.block ?_)
    refine Run.region ?_
    refine O.move rfl rfl ?_
    refine O.lenN (m := 3) hE T27 rfl rfl rfl newest_pv rfl rfl ?_
    first | refine O.cmp rfl rfl rfl (by first | exact decide_eq_true (by omega) | exact decide_eq_false (by omega)) rfl ?_ | refine O.cmp rfl rfl rfl rfl rfl ?_
    refine O.nil ?_
    try refine Run.keep [0, 1, 4, 5, 6, 7, 8, 9, 12, 20, 32, 37] rfl rfl ?_
    repeat (first | refine Run.seq ?_ | refine Run.skip ?_)
    first | refine Run.condT rfl rfl ?_ | refine Run.condF rfl rfl ?_ | refine Run.condT rfl (by assumption) ?_ | refine Run.condF rfl (by assumption) ?_
    repeat (first | refine Run.seq ?_ | refine Run.skip ?_ | refine Run.block ?_)
    refine Run.draw mixed rfl ?_
    refine D.move rfl rfl ?_
    refine D.index (el := .int .u8 0) hE T27 rfl T5 rfl rfl newest_pv rfl (by omega) rfl rfl rfl rfl ?_
    first | refine D.loadS hE T5 rfl rfl rfl (by rfl) rfl ?_ | refine D.loadE hE T5 rfl rfl (by rfl) rfl ?_ | refine D.load hE T5 rfl rfl rfl rfl ?_
    refine D.convQ (q := 0) hE T5 T3 rfl rfl (by decide) rfl ?_
    refine D.shlQ rfl rfl (by omega) h8 rfl ?_
    refine D.move rfl rfl ?_
    refine D.index (el := .int .u8 1) hE T27 rfl T5 rfl rfl newest_pv rfl (by omega) rfl rfl rfl rfl ?_
    first | refine D.loadS hE T5 rfl rfl rfl (by rfl) rfl ?_ | refine D.loadE hE T5 rfl rfl (by rfl) rfl ?_ | refine D.load hE T5 rfl rfl rfl rfl ?_
    refine D.convQ (q := 1) hE T5 T3 rfl rfl (by decide) rfl ?_
    refine D.bit rfl rfl (or_i64 (x := 0) (c := 1) (by omega) (by omega)) rfl ?_
    refine D.assign rfl rfl ?_
    refine Dr.nil ?_
    refine ⟨rfl, ?_⟩
    try refine Run.keep [0, 1, 4, 5, 6, 7, 8, 9, 12, 20, 32, 37] rfl rfl ?_
    repeat (first | refine Run.seq ?_ | refine Run.skip ?_ | refine Run.block ?_)
    refine Run.region ?_
    refine O.move rfl rfl ?_
    first | refine O.cmp rfl rfl rfl (by first | exact decide_eq_true (by omega) | exact decide_eq_false (by omega)) rfl ?_ | refine O.cmp rfl rfl rfl rfl rfl ?_
    refine O.nil ?_
    try refine Run.keep [0, 1, 4, 5, 6, 7, 8, 9, 12, 20, 32, 37] rfl rfl ?_
    repeat (first | refine Run.seq ?_ | refine Run.skip ?_)
    first | refine Run.condT rfl rfl ?_ | refine Run.condF rfl rfl ?_ | refine Run.condT rfl (by assumption) ?_ | refine Run.condF rfl (by assumption) ?_
    repeat (first | refine Run.seq ?_ | refine Run.skip ?_ | refine Run.block ?_)
    refine Run.region ?_
    refine O.move rfl rfl ?_
    refine O.lenN (m := 3) hE T27 rfl rfl rfl newest_pv rfl rfl ?_
    refine O.move rfl rfl ?_
    refine O.ar (q := 3) rfl rfl rfl (by decide) rfl ?_
    first | refine O.cmp rfl rfl rfl (by first | exact decide_eq_true (by omega) | exact decide_eq_false (by omega)) rfl ?_ | refine O.cmp rfl rfl rfl rfl rfl ?_
    refine O.nil ?_
    try refine Run.keep [0, 1, 4, 5, 6, 7, 8, 9, 12, 20, 32, 37] rfl rfl ?_
    repeat (first | refine Run.seq ?_ | refine Run.skip ?_)
    first | refine Run.condT rfl rfl ?_ | refine Run.condF rfl rfl ?_ | refine Run.condT rfl (by assumption) ?_ | refine Run.condF rfl (by assumption) ?_
    repeat (first | refine Run.seq ?_ | refine Run.skip ?_ | refine Run.block ?_)
    refine Run.region ?_
    refine O.move rfl rfl ?_
    refine O.move rfl rfl ?_
    refine O.move rfl rfl ?_
    refine O.ar (q := 3) rfl rfl rfl (by decide) rfl ?_
    refine O.slice (ys := [120].map (PV.int .u8)) hE T27 rfl T5 rfl rfl newest_pv rfl rfl rfl (by omega) (by omega) (by decide) rfl rfl ?_
    refine O.str hE T27 rfl T5 rfl T9 rfl rfl rfl newest_pv rfl rfl rfl ?_
    refine O.litV (xs := [.str (strOfNums [120])]) hE T67 rfl T9 rfl rfl rfl rfl rfl rfl rfl ?_
    refine O.append (zs := [.str (strOfNums [120])]) hE T67 rfl T9 rfl rfl rfl rfl rfl newest_pv rfl rfl rfl rfl (by decide) (by decide) rfl rfl ?_
    refine O.assign rfl rfl ?_
    refine O.nil ?_
    try refine Run.keep [0, 1, 4, 5, 6, 7, 8, 9, 12, 20, 32, 37] rfl rfl ?_
    repeat (first | refine Run.seq ?_ | refine Run.skip ?_ | refine Run.block ?_)
    refine Run.region ?_
    refine O.move rfl rfl ?_
    refine O.move rfl rfl ?_
    refine O.ar (q := 3) rfl rfl rfl (by decide) rfl ?_
    refine O.slice (ys := []) hE T27 rfl T5 rfl rfl newest_pv rfl rfl rfl (by omega) (by decide) (by decide) rfl rfl ?_
    refine O.assign rfl rfl ?_
    refine O.nil ?_
    try refine Run.keep [0, 1, 4, 5, 6, 7, 8, 9, 12, 20, 32, 37] rfl rfl ?_
    refine ih 1 _ ?_ (by omega) (by omega)
    exact SLe.drop (by repeat (first | exact TmIn.nil | refine TmIn.cons rfl ?_)) (by repeat (first | exact BxIn.nil | refine BxIn.cons rfl ?_)) rfl rfl
  repeat (first | refine Run.seq ?_ | refine Run.skip ?_ | refine Run.block ?_)
  refine Run.region ?_
  refine O.move rfl rfl ?_
  refine O.lenN (m := 0) hE T27 rfl rfl rfl newest_pv rfl rfl ?_
  first | refine O.cmp rfl rfl rfl (by first | exact decide_eq_true (by omega) | exact decide_eq_false (by omega)) rfl ?_ | refine O.cmp rfl rfl rfl rfl rfl ?_
  refine O.nil ?_
  try refine Run.keep [0, 1, 4, 5, 6, 7, 8, 9, 12, 20, 32, 37] rfl rfl ?_
  repeat (first | refine Run.seq ?_ | refine Run.skip ?_)
  first | refine Run.condT rfl rfl ?_ | refine Run.condF rfl rfl ?_ | refine Run.condT rfl (by assumption) ?_ | refine Run.condF rfl (by assumption) ?_
  refine Run.exit ?_
  repeat (first | refine thenR_exit ?_ | refine roundR_exit ?_ | refine blockR_exit ?_ | refine blockR_pass rfl ?_)
  repeat (first | refine Run.seq ?_ | refine Run.skip ?_ | refine Run.block ?_)
  refine Run.region ?_
  refine O.move rfl rfl ?_
  refine O.lit hE 51 T27 rfl T5 rfl rfl (xs := []) rfl rfl rfl rfl rfl rfl ?_
  refine O.move rfl rfl ?_
  refine O.append (zs := []) hE T27 rfl T5 rfl rfl rfl rfl rfl newest_pv rfl rfl rfl rfl (by decide) (by decide) rfl rfl ?_
  refine O.assign rfl rfl ?_
  refine O.assign rfl rfl ?_
  refine O.assign rfl rfl ?_
  refine O.nil ?_
  try refine Run.keep [0, 1, 4, 5, 6, 7, 8, 9, 12, 20, 32, 37] rfl rfl ?_
  refine Run.ret ?_
  exact Ends.of hE (.inr rfl) rfl rfl (SLe.res0 (AVle.tups (.cons (AVle.lst _ _ _ rfl) (.cons (AVle.lst _ _ _ rfl) (.cons (AVle.of_eq rfl) .nil)))) rfl)
theorem fnWireTells : FnC (En Tryd.prog g) 14 [] (.pv (.bool true)) [] := by
  have hE := EnOk g
  have c1 := fnPackX (g := g)
  have c2 := fnFeedX (g := g)
  refine FnC.of Tryd.func14 rfl rfl rfl rfl ?_
  repeat (first | refine Run.seq ?_ | refine Run.skip ?_ | refine Run.block ?_)
  refine Run.region ?_
  refine O.assign rfl rfl ?_
  refine O.nil ?_
  try refine Run.keep [0, 1, 2, 3, 5] rfl rfl ?_
  repeat (first | refine Run.seq ?_ | refine Run.skip ?_ | refine Run.block ?_)
  refine Run.region ?_
  refine O.litV hE T67 rfl T9 rfl rfl rfl rfl rfl rfl rfl ?_
  refine O.callE c1 rfl (by first | rfl | simp [closed, men3, mens2_app, mens2_ints, mens2, men2, men1, mens1_app, mens1_ints, mens1]) (by first | rfl | simp [d2, ds1_ints, ds1_app, ds1, d1, ds0_app, ds0_ints, ds0, d0]) rfl ?_
  refine O.move rfl rfl ?_
  refine O.extract rfl rfl rfl ?_
  refine O.extract rfl rfl rfl ?_
  refine O.assign rfl rfl ?_
  refine O.assign rfl rfl ?_
  refine O.nil ?_
  try refine Run.keep [0, 1, 2, 3, 5] rfl rfl ?_
  repeat (first | refine Run.seq ?_ | refine Run.skip ?_ | refine Run.block ?_)
  refine Run.region ?_
  refine O.move rfl rfl ?_
  refine O.callF c2 (.cons (AVle.nil 1) (.cons (AVle.of_eq rfl) .nil)) rfl rfl rfl ?_
  refine O.move rfl rfl ?_
  refine O.extract rfl rfl rfl ?_
  refine O.extract rfl rfl rfl ?_
  refine O.extract rfl rfl rfl ?_
  refine O.assign rfl rfl ?_
  refine O.assign rfl rfl ?_
  refine O.assign rfl rfl ?_
  refine O.nil ?_
  try refine Run.keep [0, 1, 2, 3, 5] rfl rfl ?_
  repeat (first | refine Run.seq ?_ | refine Run.skip ?_ | refine Run.block ?_)
  refine Run.region ?_
  refine O.move rfl rfl ?_
  first | refine O.cmp rfl rfl rfl (by first | exact decide_eq_true (by omega) | exact decide_eq_false (by omega)) rfl ?_ | refine O.cmp rfl rfl rfl rfl rfl ?_
  refine O.move rfl rfl ?_
  first | (refine O.yes rfl rfl (by first | rfl | assumption) ?_; refine O.move rfl rfl ?_) | refine O.no rfl rfl rfl rfl ?_
  first | (refine O.yes rfl rfl (by first | rfl | assumption) ?_; first | refine O.cmp rfl rfl rfl (by first | exact decide_eq_true (by omega) | exact decide_eq_false (by omega)) rfl ?_ | refine O.cmp rfl rfl rfl rfl rfl ?_) | refine O.no rfl rfl rfl rfl ?_
  refine O.pick rfl rfl rfl rfl rfl ?_
  refine O.move rfl rfl ?_
  first | (refine O.yes rfl rfl (by first | rfl | assumption) ?_; refine O.move rfl rfl ?_) | refine O.no rfl rfl rfl rfl ?_
  first | (refine O.yes rfl rfl (by first | rfl | assumption) ?_; refine O.lenN (m := 3) hE T27 rfl rfl rfl newest_pv rfl rfl ?_) | refine O.no rfl rfl rfl rfl ?_
  first | (refine O.yes rfl rfl (by first | rfl | assumption) ?_; first | refine O.cmp rfl rfl rfl (by first | exact decide_eq_true (by omega) | exact decide_eq_false (by omega)) rfl ?_ | refine O.cmp rfl rfl rfl rfl rfl ?_) | refine O.no rfl rfl rfl rfl ?_
  refine O.pick rfl rfl rfl rfl rfl ?_
  refine O.move rfl rfl ?_
  first | (refine O.yes rfl rfl (by first | rfl | assumption) ?_; refine O.move rfl rfl ?_) | refine O.no rfl rfl rfl rfl ?_
  first | (refine O.yes rfl rfl (by first | rfl | assumption) ?_; refine O.lenN (m := 1) hE T67 rfl rfl rfl newest_pv rfl rfl ?_) | refine O.no rfl rfl rfl rfl ?_
  first | (refine O.yes rfl rfl (by first | rfl | assumption) ?_; first | refine O.cmp rfl rfl rfl (by first | exact decide_eq_true (by omega) | exact decide_eq_false (by omega)) rfl ?_ | refine O.cmp rfl rfl rfl rfl rfl ?_) | refine O.no rfl rfl rfl rfl ?_
  refine O.pick rfl rfl rfl rfl rfl ?_
  refine O.assign rfl rfl ?_
  refine O.nil ?_
  try refine Run.keep [0, 1, 2, 3, 5] rfl rfl ?_
  (repeat (first | refine Run.seq ?_ | refine Run.skip ?_)); (try refine Run.ret ?_); first | exact Ends.flat hE (.inr rfl) rfl rfl (AVle.of_eq rfl) rfl | exact Ends.flat hE (.inl rfl) rfl rfl (AVle.of_eq rfl) rfl
end Go.Proofs.YtalcpfpjkfpmbaaDoor.Vm
