/- Slots: leaves, nodes, rows of a tree, its root. Conditions: the table of steps has 64 words. -/
import Derived.Test.YthpenjbpaegpgaaDoorSlotA
namespace Go.Proofs.YthpenjbpaegpgaaDoor.Vm
open Go Go.RowKit
set_option linter.unusedVariables false
set_option linter.unusedSimpArgs false
attribute [local irreducible] Ops Dr Run digP
variable {g : Nat → Option (List PV)}
theorem fnModesS {mode : Int} (hm : mode = 1 ∨ mode = 2) : FnC (En Tryd.prog g) 38 [.pv (.int .i64 mode)] (.pv (.bool true)) [] := by
  have hE := EnOk g
  rcases hm with rfl | rfl
  ·
    refine FnC.of Tryd.func38 rfl rfl rfl rfl ?_
    repeat (first | refine Run.seq ?_ | refine Run.skip ?_ | refine Run.block ?_)
    refine Run.region ?_
    refine O.assign rfl rfl ?_
    refine O.nil ?_
    try refine Run.keep [0, 2] rfl rfl ?_
    repeat (first | refine Run.seq ?_ | refine Run.skip ?_ | refine Run.block ?_)
    refine Run.region ?_
    refine O.move rfl rfl ?_
    first | refine O.cmp rfl rfl rfl (by first | exact decide_eq_true (by omega) | exact decide_eq_false (by omega)) rfl ?_ | refine O.cmp rfl rfl rfl rfl rfl ?_
    refine O.move rfl rfl ?_
    first | (refine O.yes rfl rfl (by first | rfl | assumption) ?_; refine O.move rfl rfl ?_) | refine O.no rfl rfl rfl rfl ?_
    first | (refine O.yes rfl rfl (by first | rfl | assumption) ?_; first | refine O.cmp rfl rfl rfl (by first | exact decide_eq_true (by omega) | exact decide_eq_false (by omega)) rfl ?_ | refine O.cmp rfl rfl rfl rfl rfl ?_) | refine O.no rfl rfl rfl rfl ?_
    refine O.pick rfl rfl rfl rfl rfl ?_
    refine O.assign rfl rfl ?_
    refine O.nil ?_
    try refine Run.keep [0, 2] rfl rfl ?_
    (repeat (first | refine Run.seq ?_ | refine Run.skip ?_)); (try refine Run.ret ?_); first | exact Ends.flat hE (.inr rfl) rfl rfl (AVle.of_eq rfl) rfl | exact Ends.flat hE (.inl rfl) rfl rfl (AVle.of_eq rfl) rfl
  ·
    refine FnC.of Tryd.func38 rfl rfl rfl rfl ?_
    repeat (first | refine Run.seq ?_ | refine Run.skip ?_ | refine Run.block ?_)
    refine Run.region ?_
    refine O.assign rfl rfl ?_
    refine O.nil ?_
    try refine Run.keep [0, 2] rfl rfl ?_
    repeat (first | refine Run.seq ?_ | refine Run.skip ?_ | refine Run.block ?_)
    refine Run.region ?_
    refine O.move rfl rfl ?_
    first | refine O.cmp rfl rfl rfl (by first | exact decide_eq_true (by omega) | exact decide_eq_false (by omega)) rfl ?_ | refine O.cmp rfl rfl rfl rfl rfl ?_
    refine O.move rfl rfl ?_
    first | (refine O.yes rfl rfl (by first | rfl | assumption) ?_; refine O.move rfl rfl ?_) | refine O.no rfl rfl rfl rfl ?_
    first | (refine O.yes rfl rfl (by first | rfl | assumption) ?_; first | refine O.cmp rfl rfl rfl (by first | exact decide_eq_true (by omega) | exact decide_eq_false (by omega)) rfl ?_ | refine O.cmp rfl rfl rfl rfl rfl ?_) | refine O.no rfl rfl rfl rfl ?_
    refine O.pick rfl rfl rfl rfl rfl ?_
    refine O.assign rfl rfl ?_
    refine O.nil ?_
    try refine Run.keep [0, 2] rfl rfl ?_
    (repeat (first | refine Run.seq ?_ | refine Run.skip ?_)); (try refine Run.ret ?_); first | exact Ends.flat hE (.inr rfl) rfl rfl (AVle.of_eq rfl) rfl | exact Ends.flat hE (.inl rfl) rfl rfl (AVle.of_eq rfl) rfl
theorem digP_pos {T : List Int → List Int → List Int} {mode : Int} (tag : Int) (q : List (List Int)) : 0 < (digP T mode tag q).length := by
  unfold digP
  split
  · have := frameL_len tag q; have := tot_nn q; omega
  · rw [sumP_len]; decide
def leafP (D : Int → List (List Int) → List Int) (s : Sl) : List Int := D 1 [s.salt, if s.full then 1 :: s.data else [0]]
theorem leaf_len {T : List Int → List Int → List Int} {mode : Int} {s : Sl} (hs : Sok s) : ((leafP (digP T mode) s).length : Int) ≤ 160 := by
  refine digP_len (by decide) ?_
  obtain ⟨h1, h2, h3⟩ := hs
  split <;> simp [tot] <;> omega
theorem fnLeaf {T : List Int → List Int → List Int} (hT : Feeds g T) {mode : Int} (hm : mode = 1 ∨ mode = 2) {s : Sl} (hs : Sok s) : FnC (En Tryd.prog g) 26 [.pv (.int .i64 mode), slA s] (.tup [.pv (bys (leafP (digP T mode) s)), .pv (.int .i64 0)]) [] := by
  have hE := EnOk g
  have c1 := fnModesS (g := g) hm
  obtain ⟨full, salt, data⟩ := s
  obtain ⟨h1, h2, h3⟩ := hs
  dsimp only at h1 h2 h3
  have hsl : (salt.map (PV.int .u8)).length = salt.length := by simp
  have hdl : (data.map (PV.int .u8)).length = data.length := by simp
  cases full with
  | true =>
    have c2 := fnDigest hT (mode := mode) (tag := 1) (ps := [salt, 1 :: data]) hm (by omega) ⟨by simp, by simp; omega, by simp [tot]; omega⟩
    show FnC _ 26 [.pv (.int .i64 mode), .agg [.pv (.bool true), .pv (bys salt), .pv (bys data)]] (.tup [.pv (bys (digP T mode 1 [salt, 1 :: data])), .pv (.int .i64 0)]) []
    generalize digP T mode 1 [salt, 1 :: data] = R at *
    refine FnC.of Tryd.func26 rfl rfl rfl rfl ?_
    repeat (first | refine Run.seq ?_ | refine Run.skip ?_ | refine Run.block ?_)
    refine Run.region ?_
    refine O.box 3 rfl (by first | rfl | exact cells_ones (by simp [ones_app, ones_ints, ones, AV.one, PV.one])) rfl rfl ?_
    refine O.assign rfl rfl ?_
    refine O.assign rfl rfl ?_
    refine O.nil ?_
    try refine Run.keep [0, 1, 3, 4, 5, 6, 9, 18, 28, 31] rfl rfl ?_
    repeat (first | refine Run.seq ?_ | refine Run.skip ?_ | refine Run.block ?_)
    refine Run.region ?_
    refine O.move rfl rfl ?_
    refine O.callE c1 rfl (by first | rfl | simp [closed, men3, mens2_app, mens2_ints, mens2, men2, men1, mens1_app, mens1_ints, mens1]) (by first | rfl | simp [d2, ds1_ints, ds1_app, ds1, d1, ds0_app, ds0_ints, ds0, d0]) rfl ?_
    refine O.un rfl rfl rfl rfl rfl ?_
    refine O.nil ?_
    try refine Run.keep [0, 1, 3, 4, 5, 6, 9, 18, 28, 31] rfl rfl ?_
    repeat (first | refine Run.seq ?_ | refine Run.skip ?_)
    first | refine Run.condT rfl rfl ?_ | refine Run.condF rfl rfl ?_ | refine Run.condT rfl (by assumption) ?_ | refine Run.condF rfl (by assumption) ?_
    repeat (first | refine Run.seq ?_ | refine Run.skip ?_ | refine Run.block ?_)
    refine Run.region ?_
    refine O.field hE L40 rfl rfl rfl rfl ?_
    first | refine O.loadS hE T4 rfl rfl rfl (by rfl) rfl ?_ | refine O.loadE hE T4 rfl rfl (by rfl) rfl ?_ | refine O.load hE T4 rfl rfl rfl rfl ?_
    refine O.un rfl rfl rfl rfl rfl ?_
    refine O.move rfl rfl ?_
    first | (refine O.yes rfl rfl (by first | rfl | assumption) ?_; refine O.field hE L40 rfl rfl rfl rfl ?_) | refine O.no rfl rfl rfl rfl ?_
    first | (refine O.yes rfl rfl (by first | rfl | assumption) ?_; first | refine O.loadS hE T31 rfl rfl rfl (by rfl) rfl ?_ | refine O.loadE hE T31 rfl rfl (by rfl) rfl ?_ | refine O.load hE T31 rfl rfl rfl rfl ?_) | refine O.no rfl rfl rfl rfl ?_
    first | (refine O.yes rfl rfl (by first | rfl | assumption) ?_; first | refine O.lenN hE T31 rfl rfl rfl (by first | exact newest_pv | exact newest_gl rfl rfl | trivial) lenC rfl ?_ | refine O.lenLst hE T31 rfl rfl rfl (by first | exact newest_pv | exact newest_gl rfl rfl | trivial) rfl ?_) | refine O.no rfl rfl rfl rfl ?_
    first | (refine O.yes rfl rfl (by first | rfl | assumption) ?_; first | refine O.cmp rfl rfl rfl (by first | exact decide_eq_true (by omega) | exact decide_eq_false (by omega)) rfl ?_ | refine O.cmp rfl rfl rfl rfl rfl ?_) | refine O.no rfl rfl rfl rfl ?_
    refine O.pick rfl rfl rfl rfl rfl ?_
    refine O.nil ?_
    try refine Run.keep [0, 1, 3, 4, 5, 6, 9, 18, 28, 31] rfl rfl ?_
    repeat (first | refine Run.seq ?_ | refine Run.skip ?_)
    first | refine Run.condT rfl rfl ?_ | refine Run.condF rfl rfl ?_ | refine Run.condT rfl (by assumption) ?_ | refine Run.condF rfl (by assumption) ?_
    repeat (first | refine Run.seq ?_ | refine Run.skip ?_ | refine Run.block ?_)
    refine Run.region ?_
    refine O.field hE L40 rfl rfl rfl rfl ?_
    first | refine O.loadS hE T31 rfl rfl rfl (by rfl) rfl ?_ | refine O.loadE hE T31 rfl rfl (by rfl) rfl ?_ | refine O.load hE T31 rfl rfl rfl rfl ?_
    first | refine O.lenN hE T31 rfl rfl rfl (by first | exact newest_pv | exact newest_gl rfl rfl | trivial) lenC rfl ?_ | refine O.lenLst hE T31 rfl rfl rfl (by first | exact newest_pv | exact newest_gl rfl rfl | trivial) rfl ?_
    first | refine O.cmp rfl rfl rfl (by first | exact decide_eq_true (by omega) | exact decide_eq_false (by omega)) rfl ?_ | refine O.cmp rfl rfl rfl rfl rfl ?_
    refine O.move rfl rfl ?_
    first | (refine O.yes rfl rfl (by first | rfl | assumption) ?_; refine O.field hE L40 rfl rfl rfl rfl ?_) | refine O.no rfl rfl rfl rfl ?_
    first | (refine O.yes rfl rfl (by first | rfl | assumption) ?_; first | refine O.loadS hE T31 rfl rfl rfl (by rfl) rfl ?_ | refine O.loadE hE T31 rfl rfl (by rfl) rfl ?_ | refine O.load hE T31 rfl rfl rfl rfl ?_) | refine O.no rfl rfl rfl rfl ?_
    first | (refine O.yes rfl rfl (by first | rfl | assumption) ?_; first | refine O.lenN hE T31 rfl rfl rfl (by first | exact newest_pv | exact newest_gl rfl rfl | trivial) lenC rfl ?_ | refine O.lenLst hE T31 rfl rfl rfl (by first | exact newest_pv | exact newest_gl rfl rfl | trivial) rfl ?_) | refine O.no rfl rfl rfl rfl ?_
    first | (refine O.yes rfl rfl (by first | rfl | assumption) ?_; first | refine O.cmp rfl rfl rfl (by first | exact decide_eq_true (by omega) | exact decide_eq_false (by omega)) rfl ?_ | refine O.cmp rfl rfl rfl rfl rfl ?_) | refine O.no rfl rfl rfl rfl ?_
    refine O.pick rfl rfl rfl rfl rfl ?_
    refine O.nil ?_
    try refine Run.keep [0, 1, 3, 4, 5, 6, 9, 18, 28, 31] rfl rfl ?_
    repeat (first | refine Run.seq ?_ | refine Run.skip ?_)
    first | refine Run.condT rfl rfl ?_ | refine Run.condF rfl rfl ?_ | refine Run.condT rfl (by assumption) ?_ | refine Run.condF rfl (by assumption) ?_
    repeat (first | refine Run.seq ?_ | refine Run.skip ?_ | refine Run.block ?_)
    refine Run.region ?_
    refine O.litV hE T31 rfl T5 rfl rfl rfl rfl rfl rfl rfl ?_
    refine O.assign rfl rfl ?_
    refine O.nil ?_
    try refine Run.keep [0, 1, 3, 4, 5, 6, 9, 18, 28, 31] rfl rfl ?_
    repeat (first | refine Run.seq ?_ | refine Run.skip ?_ | refine Run.block ?_)
    refine Run.region ?_
    refine O.field hE L40 rfl rfl rfl rfl ?_
    first | refine O.loadS hE T4 rfl rfl rfl (by rfl) rfl ?_ | refine O.loadE hE T4 rfl rfl (by rfl) rfl ?_ | refine O.load hE T4 rfl rfl rfl rfl ?_
    refine O.nil ?_
    try refine Run.keep [0, 1, 3, 4, 5, 6, 9, 18, 28, 31] rfl rfl ?_
    repeat (first | refine Run.seq ?_ | refine Run.skip ?_)
    first | refine Run.condT rfl rfl ?_ | refine Run.condF rfl rfl ?_ | refine Run.condT rfl (by assumption) ?_ | refine Run.condF rfl (by assumption) ?_
    repeat (first | refine Run.seq ?_ | refine Run.skip ?_ | refine Run.block ?_)
    refine Run.region ?_
    refine O.lit hE 32 T31 rfl T5 rfl rfl rfl rfl rfl rfl rfl rfl ?_
    refine O.field hE L40 rfl rfl rfl rfl ?_
    first | refine O.loadS hE T31 rfl rfl rfl (by rfl) rfl ?_ | refine O.loadE hE T31 rfl rfl (by rfl) rfl ?_ | refine O.load hE T31 rfl rfl rfl rfl ?_
    refine O.appM (PV.int .u8) (q := [1]) (r := data) hE T31 rfl T5 rfl rfl rfl rfl rfl newest_pv rfl rfl rfl rfl (by simp; omega) (by simp [maxLen]; omega) rfl ?_
    refine O.assign rfl rfl ?_
    refine O.nil ?_
    try refine Run.keep [0, 1, 3, 4, 5, 6, 9, 18, 28, 31] rfl rfl ?_
    refine Run.pre (s1 := ⟨44, [(0, .pv (.int .i64 mode)), (3, .ptr 3 0), (4, .pv .nil), (5, .pv (.int .i64 0)), (6, .pv (bys (1 :: data)))], [(3, .var [.pv (.bool true), .pv (bys salt), .pv (bys data)])]⟩) ?_ ?_
    ·
      refine SLe.by rfl ?_ ?_ rfl rfl <;> repeat (first | exact TmLe.nil | exact BxsLe.nil | refine TmLe.cons (AVle.of_eq rfl) ?_ | refine TmLe.cons (AVle.lst _ _ _ (lstOf_gl rfl (by simp))) ?_ | refine BxsLe.cons rfl (.refl _) ?_)
    repeat (first | refine Run.seq ?_ | refine Run.skip ?_ | refine Run.block ?_)
    refine Run.region ?_
    refine O.move rfl rfl ?_
    refine O.field hE L40 rfl rfl rfl rfl ?_
    first | refine O.loadS hE T31 rfl rfl rfl (by rfl) rfl ?_ | refine O.loadE hE T31 rfl rfl (by rfl) rfl ?_ | refine O.load hE T31 rfl rfl rfl rfl ?_
    refine O.move rfl rfl ?_
    refine O.litV hE T24 rfl T31 rfl rfl rfl rfl rfl rfl rfl ?_
    refine O.callE c2 rfl (by first | rfl | simp [closed, men3, mens2_app, mens2_ints, mens2, men2, men1, mens1_app, mens1_ints, mens1]) (by first | rfl | simp [d2, ds1_ints, ds1_app, ds1, d1, ds0_app, ds0_ints, ds0, d0]) rfl ?_
    refine O.extract rfl rfl rfl ?_
    refine O.extract rfl rfl rfl ?_
    refine O.assign rfl rfl ?_
    refine O.assign rfl rfl ?_
    refine O.nil ?_
    try refine Run.keep [0, 1, 3, 4, 5, 6, 9, 18, 28, 31] rfl rfl ?_
    (repeat (first | refine Run.seq ?_ | refine Run.skip ?_)); (try refine Run.ret ?_); first | exact Ends.flat hE (.inr rfl) rfl rfl (AVle.of_eq rfl) rfl | exact Ends.flat hE (.inl rfl) rfl rfl (AVle.of_eq rfl) rfl
  | false =>
    obtain rfl : data = [] := h3 rfl
    have c2 := fnDigest hT (mode := mode) (tag := 1) (ps := [salt, [0]]) hm (by omega) ⟨by simp, by simp; omega, by simp [tot]; omega⟩
    show FnC _ 26 [.pv (.int .i64 mode), .agg [.pv (.bool false), .pv (bys salt), .pv (bys [])]] (.tup [.pv (bys (digP T mode 1 [salt, [0]])), .pv (.int .i64 0)]) []
    generalize digP T mode 1 [salt, [0]] = R at *
    refine FnC.of Tryd.func26 rfl rfl rfl rfl ?_
    repeat (first | refine Run.seq ?_ | refine Run.skip ?_ | refine Run.block ?_)
    refine Run.region ?_
    refine O.box 3 rfl (by first | rfl | exact cells_ones (by simp [ones_app, ones_ints, ones, AV.one, PV.one])) rfl rfl ?_
    refine O.assign rfl rfl ?_
    refine O.assign rfl rfl ?_
    refine O.nil ?_
    try refine Run.keep [0, 1, 3, 4, 5, 6, 9, 18, 28, 31] rfl rfl ?_
    repeat (first | refine Run.seq ?_ | refine Run.skip ?_ | refine Run.block ?_)
    refine Run.region ?_
    refine O.move rfl rfl ?_
    refine O.callE c1 rfl (by first | rfl | simp [closed, men3, mens2_app, mens2_ints, mens2, men2, men1, mens1_app, mens1_ints, mens1]) (by first | rfl | simp [d2, ds1_ints, ds1_app, ds1, d1, ds0_app, ds0_ints, ds0, d0]) rfl ?_
    refine O.un rfl rfl rfl rfl rfl ?_
    refine O.nil ?_
    try refine Run.keep [0, 1, 3, 4, 5, 6, 9, 18, 28, 31] rfl rfl ?_
    repeat (first | refine Run.seq ?_ | refine Run.skip ?_)
    first | refine Run.condT rfl rfl ?_ | refine Run.condF rfl rfl ?_ | refine Run.condT rfl (by assumption) ?_ | refine Run.condF rfl (by assumption) ?_
    repeat (first | refine Run.seq ?_ | refine Run.skip ?_ | refine Run.block ?_)
    refine Run.region ?_
    refine O.field hE L40 rfl rfl rfl rfl ?_
    first | refine O.loadS hE T4 rfl rfl rfl (by rfl) rfl ?_ | refine O.loadE hE T4 rfl rfl (by rfl) rfl ?_ | refine O.load hE T4 rfl rfl rfl rfl ?_
    refine O.un rfl rfl rfl rfl rfl ?_
    refine O.move rfl rfl ?_
    first | (refine O.yes rfl rfl (by first | rfl | assumption) ?_; refine O.field hE L40 rfl rfl rfl rfl ?_) | refine O.no rfl rfl rfl rfl ?_
    first | (refine O.yes rfl rfl (by first | rfl | assumption) ?_; first | refine O.loadS hE T31 rfl rfl rfl (by rfl) rfl ?_ | refine O.loadE hE T31 rfl rfl (by rfl) rfl ?_ | refine O.load hE T31 rfl rfl rfl rfl ?_) | refine O.no rfl rfl rfl rfl ?_
    first | (refine O.yes rfl rfl (by first | rfl | assumption) ?_; first | refine O.lenN hE T31 rfl rfl rfl (by first | exact newest_pv | exact newest_gl rfl rfl | trivial) lenC rfl ?_ | refine O.lenLst hE T31 rfl rfl rfl (by first | exact newest_pv | exact newest_gl rfl rfl | trivial) rfl ?_) | refine O.no rfl rfl rfl rfl ?_
    first | (refine O.yes rfl rfl (by first | rfl | assumption) ?_; first | refine O.cmp rfl rfl rfl (by first | exact decide_eq_true (by omega) | exact decide_eq_false (by omega)) rfl ?_ | refine O.cmp rfl rfl rfl rfl rfl ?_) | refine O.no rfl rfl rfl rfl ?_
    refine O.pick rfl rfl rfl rfl rfl ?_
    refine O.nil ?_
    try refine Run.keep [0, 1, 3, 4, 5, 6, 9, 18, 28, 31] rfl rfl ?_
    repeat (first | refine Run.seq ?_ | refine Run.skip ?_)
    first | refine Run.condT rfl rfl ?_ | refine Run.condF rfl rfl ?_ | refine Run.condT rfl (by assumption) ?_ | refine Run.condF rfl (by assumption) ?_
    repeat (first | refine Run.seq ?_ | refine Run.skip ?_ | refine Run.block ?_)
    refine Run.region ?_
    refine O.field hE L40 rfl rfl rfl rfl ?_
    first | refine O.loadS hE T31 rfl rfl rfl (by rfl) rfl ?_ | refine O.loadE hE T31 rfl rfl (by rfl) rfl ?_ | refine O.load hE T31 rfl rfl rfl rfl ?_
    first | refine O.lenN hE T31 rfl rfl rfl (by first | exact newest_pv | exact newest_gl rfl rfl | trivial) lenC rfl ?_ | refine O.lenLst hE T31 rfl rfl rfl (by first | exact newest_pv | exact newest_gl rfl rfl | trivial) rfl ?_
    first | refine O.cmp rfl rfl rfl (by first | exact decide_eq_true (by omega) | exact decide_eq_false (by omega)) rfl ?_ | refine O.cmp rfl rfl rfl rfl rfl ?_
    refine O.move rfl rfl ?_
    first | (refine O.yes rfl rfl (by first | rfl | assumption) ?_; refine O.field hE L40 rfl rfl rfl rfl ?_) | refine O.no rfl rfl rfl rfl ?_
    first | (refine O.yes rfl rfl (by first | rfl | assumption) ?_; first | refine O.loadS hE T31 rfl rfl rfl (by rfl) rfl ?_ | refine O.loadE hE T31 rfl rfl (by rfl) rfl ?_ | refine O.load hE T31 rfl rfl rfl rfl ?_) | refine O.no rfl rfl rfl rfl ?_
    first | (refine O.yes rfl rfl (by first | rfl | assumption) ?_; first | refine O.lenN hE T31 rfl rfl rfl (by first | exact newest_pv | exact newest_gl rfl rfl | trivial) lenC rfl ?_ | refine O.lenLst hE T31 rfl rfl rfl (by first | exact newest_pv | exact newest_gl rfl rfl | trivial) rfl ?_) | refine O.no rfl rfl rfl rfl ?_
    first | (refine O.yes rfl rfl (by first | rfl | assumption) ?_; first | refine O.cmp rfl rfl rfl (by first | exact decide_eq_true (by omega) | exact decide_eq_false (by omega)) rfl ?_ | refine O.cmp rfl rfl rfl rfl rfl ?_) | refine O.no rfl rfl rfl rfl ?_
    refine O.pick rfl rfl rfl rfl rfl ?_
    refine O.nil ?_
    try refine Run.keep [0, 1, 3, 4, 5, 6, 9, 18, 28, 31] rfl rfl ?_
    repeat (first | refine Run.seq ?_ | refine Run.skip ?_)
    first | refine Run.condT rfl rfl ?_ | refine Run.condF rfl rfl ?_ | refine Run.condT rfl (by assumption) ?_ | refine Run.condF rfl (by assumption) ?_
    repeat (first | refine Run.seq ?_ | refine Run.skip ?_ | refine Run.block ?_)
    refine Run.region ?_
    refine O.litV hE T31 rfl T5 rfl rfl rfl rfl rfl rfl rfl ?_
    refine O.assign rfl rfl ?_
    refine O.nil ?_
    try refine Run.keep [0, 1, 3, 4, 5, 6, 9, 18, 28, 31] rfl rfl ?_
    repeat (first | refine Run.seq ?_ | refine Run.skip ?_ | refine Run.block ?_)
    refine Run.region ?_
    refine O.field hE L40 rfl rfl rfl rfl ?_
    first | refine O.loadS hE T4 rfl rfl rfl (by rfl) rfl ?_ | refine O.loadE hE T4 rfl rfl (by rfl) rfl ?_ | refine O.load hE T4 rfl rfl rfl rfl ?_
    refine O.nil ?_
    try refine Run.keep [0, 1, 3, 4, 5, 6, 9, 18, 28, 31] rfl rfl ?_
    repeat (first | refine Run.seq ?_ | refine Run.skip ?_)
    first | refine Run.condT rfl rfl ?_ | refine Run.condF rfl rfl ?_ | refine Run.condT rfl (by assumption) ?_ | refine Run.condF rfl (by assumption) ?_
    repeat (first | refine Run.seq ?_ | refine Run.skip ?_ | refine Run.block ?_)
    refine Run.region ?_
    refine O.move rfl rfl ?_
    refine O.field hE L40 rfl rfl rfl rfl ?_
    first | refine O.loadS hE T31 rfl rfl rfl (by rfl) rfl ?_ | refine O.loadE hE T31 rfl rfl (by rfl) rfl ?_ | refine O.load hE T31 rfl rfl rfl rfl ?_
    refine O.move rfl rfl ?_
    refine O.litV hE T24 rfl T31 rfl rfl rfl rfl rfl rfl rfl ?_
    refine O.callE c2 rfl (by first | rfl | simp [closed, men3, mens2_app, mens2_ints, mens2, men2, men1, mens1_app, mens1_ints, mens1]) (by first | rfl | simp [d2, ds1_ints, ds1_app, ds1, d1, ds0_app, ds0_ints, ds0, d0]) rfl ?_
    refine O.extract rfl rfl rfl ?_
    refine O.extract rfl rfl rfl ?_
    refine O.assign rfl rfl ?_
    refine O.assign rfl rfl ?_
    refine O.nil ?_
    try refine Run.keep [0, 1, 3, 4, 5, 6, 9, 18, 28, 31] rfl rfl ?_
    (repeat (first | refine Run.seq ?_ | refine Run.skip ?_)); (try refine Run.ret ?_); first | exact Ends.flat hE (.inr rfl) rfl rfl (AVle.of_eq rfl) rfl | exact Ends.flat hE (.inl rfl) rfl rfl (AVle.of_eq rfl) rfl
/-- The row above a row. -/
def upP (D : Int → List (List Int) → List Int) (row : List (List Int)) : List (List Int) := (List.range (row.length / 2)).map fun i => D 2 [row.getD (2 * i) [], row.getD (2 * i + 1) []]
theorem upP_len {D : Int → List (List Int) → List Int} {row : List (List Int)} : (upP D row).length = row.length / 2 := by simp [upP]
theorem upP_get {D : Int → List (List Int) → List Int} {row : List (List Int)} {i : Nat} (h : i < row.length / 2) : (upP D row).getD i [] = D 2 [row.getD (2 * i) [], row.getD (2 * i + 1) []] := by
  simp [upP, List.getD_eq_getElem?_getD, List.getElem?_range h]
theorem getD_len {row : List (List Int)} {B : Int} (h : ∀ p ∈ row, (p.length : Int) ≤ B) (h0 : 0 ≤ B) (i : Nat) : ((row.getD i []).length : Int) ≤ B := by
  rw [List.getD_eq_getElem?_getD]
  cases hi : row[i]? with
  | none => simpa using h0
  | some p => exact h p (List.mem_of_getElem? hi)
end Go.Proofs.YthpenjbpaegpgaaDoor.Vm
