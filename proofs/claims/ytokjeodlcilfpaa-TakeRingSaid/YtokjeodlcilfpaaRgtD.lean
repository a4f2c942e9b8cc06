/- Grants: checked, given, taken. Conditions: none. -/
import Derived.Test.YtokjeodlcilfpaaRgtC
namespace Go.Proofs.Ytokjeodlcilfpaa.Vm
open Go Go.RowKit
set_option linter.unusedVariables false
set_option linter.unusedSimpArgs false
attribute [local irreducible] Ops Dr Run
/-- Grants that may be. -/
def riseB (l : List Gr) : Bool := (List.range l.length).all fun j => match l[j]?, l[j + 1]? with
  | some a, some b => bef a b
  | _, _ => true
def okL (l : List Gr) : Bool := l.all gOk && riseB l && decide ((heldP l).length = l.length) && decide (l.length ≤ 90)
structure LOk (l : List Gr) : Prop where
  g : ∀ x ∈ l, gOk x = true
  r : ∀ (j : Nat) a b, l[j]? = some a → l[j + 1]? = some b → bef a b = true
  h : (heldP l).length = l.length
  n : l.length ≤ 90
theorem okL_to {l : List Gr} (h : okL l = true) : LOk l := by
  simp only [okL, Bool.and_eq_true, decide_eq_true_eq, List.all_eq_true] at h
  obtain ⟨⟨⟨h1, h2⟩, h3⟩, h4⟩ := h
  refine ⟨h1, fun j a b ha hb => ?_, h3, h4⟩
  simp only [riseB, List.all_eq_true] at h2
  have := h2 j (List.mem_range.2 (by have := (List.getElem?_eq_some_iff.1 ha).1; omega))
  rw [ha, hb] at this
  exact this
theorem LOk.ob {l : List Gr} (h : LOk l) : ∀ x ∈ l, 0 ≤ x.ob ∧ x.ob < 12 := fun x hx => by
  obtain ⟨_, _, _, _, h5, h6, _⟩ := gOk_to (h.g x hx)
  exact ⟨h5, h6⟩
variable {g : Nat → Option (List PV)}
theorem fnRCheck {l : List Gr} (h : LOk l) : FnC (En Try.prog g) 23 [.pv (.lst 5 (l.map grE))] (.pv (.int .i64 0)) [] := by
  have hE := EnOk g
  have hn := h.n
  have ch := fnHeld (g := g) (by omega) h.ob
  have hhl : ((((heldP l).map grE).length : Nat) : Int) = l.length := by rw [List.length_map, h.h]
  have hlm : (((l.map grE).length : Nat) : Int) = l.length := by simp
  refine FnC.of Try.func23 rfl rfl rfl rfl ?_
  repeat (first | refine Run.seq ?_ | refine Run.skip ?_ | refine Run.block ?_)
  refine Run.region ?_
  refine O.assign rfl rfl ?_
  refine O.nil ?_
  try refine Run.keep [0, 2, 3, 4, 5, 8, 9, 10, 11, 12, 19, 34, 41] rfl rfl ?_
  repeat (first | refine Run.seq ?_ | refine Run.skip ?_ | refine Run.block ?_)
  refine Run.region ?_
  refine O.move rfl rfl ?_
  first | refine O.lenN hE T42 rfl rfl rfl (by first | exact newest_pv | exact newest_gl rfl rfl | trivial) lenC rfl ?_ | refine O.lenLst hE T42 rfl rfl rfl (by first | exact newest_pv | exact newest_gl rfl rfl | trivial) rfl ?_
  first | refine O.cmp rfl rfl rfl (by first | exact decide_eq_true (by omega) | exact decide_eq_false (by omega)) rfl ?_ | refine O.cmp rfl rfl rfl rfl rfl ?_
  refine O.nil ?_
  try refine Run.keep [0, 2, 3, 4, 5, 8, 9, 10, 11, 12, 19, 34, 41] rfl rfl ?_
  repeat (first | refine Run.seq ?_ | refine Run.skip ?_)
  first | refine Run.condT rfl rfl ?_ | refine Run.condF rfl rfl ?_ | refine Run.condT rfl (by assumption) ?_ | refine Run.condF rfl (by assumption) ?_
  repeat (first | refine Run.seq ?_ | refine Run.skip ?_ | refine Run.block ?_)
  refine Run.region ?_
  refine O.move rfl rfl ?_
  first | refine O.lenN hE T42 rfl rfl rfl (by first | exact newest_pv | exact newest_gl rfl rfl | trivial) lenC rfl ?_ | refine O.lenLst hE T42 rfl rfl rfl (by first | exact newest_pv | exact newest_gl rfl rfl | trivial) rfl ?_
  refine O.move rfl rfl ?_
  refine O.nil ?_
  try refine Run.keep [0, 2, 3, 4, 5, 8, 9, 10, 11, 12, 19, 34, 41] rfl rfl ?_
  repeat (first | refine Run.seq ?_ | refine Run.skip ?_)
  refine Run.block ?_
  refine Run.loopInv (ι := Nat) (fun j => j ≤ l.length) (fun j => ⟨42, [(0, .pv (.lst 5 (l.map grE))), (9, .pv (.lst 5 (l.map grE))), (10, .pv (.int .i64 l.length)), (11, .pv (.int .i64 (j : Int)))], []⟩) (fun j => l.length - j) 0 (Nat.zero_le _) ?_ ?_
  ·
    refine SLe.eqv (by repeat (first | exact TmIn.nil | refine TmIn.cons rfl ?_)) (by repeat (first | exact BxIn.nil | refine BxIn.cons rfl ?_)) rfl
  rintro j hj ih
  by_cases hlt : j < l.length
  ·
    obtain ⟨x, hx⟩ : ∃ x, l[j]? = some x := ⟨_, List.getElem?_eq_getElem hlt⟩
    have hat : (l.map grE)[(j : Int).toNat]? = some (grE x) := by rw [Int.toNat_natCast, List.getElem?_map, hx]; rfl
    have cb := fnBounds (g := g) (h.g x (List.mem_of_getElem? hx))
    have cp := fnPlaced (g := g) x
    by_cases h0 : j = 0
    ·
      subst h0
      obtain ⟨fr, tt, ob, rt, op⟩ := x
      repeat (first | refine Run.seq ?_ | refine Run.skip ?_ | refine Run.block ?_)
      refine Run.region ?_
      first | refine O.cmp rfl rfl rfl (by first | exact decide_eq_true (by omega) | exact decide_eq_false (by omega)) rfl ?_ | refine O.cmp rfl rfl rfl rfl rfl ?_
      refine O.nil ?_
      try refine Run.keep [0, 2, 3, 4, 5, 8, 9, 10, 11, 12, 19, 34, 41] rfl rfl ?_
      repeat (first | refine Run.seq ?_ | refine Run.skip ?_)
      first | refine Run.condT rfl rfl ?_ | refine Run.condF rfl rfl ?_ | refine Run.condT rfl (by assumption) ?_ | refine Run.condF rfl (by assumption) ?_
      repeat (first | refine Run.seq ?_ | refine Run.skip ?_ | refine Run.block ?_)
      refine Run.region ?_
      refine O.move rfl rfl ?_
      refine O.index hE T42 rfl T46 rfl rfl newest_pv rfl (by omega) hat rfl rfl rfl ?_
      refine O.load hE T46 rfl rfl rfl rfl ?_
      refine O.alloc hE 4 T46 rfl rfl rfl ?_
      refine O.assign rfl rfl ?_
      refine O.store hE T46 rfl rfl rfl rfl rfl rfl ?_
      refine O.nil ?_
      try refine Run.keep [0, 2, 3, 4, 5, 8, 9, 10, 11, 12, 19, 34, 41] rfl rfl ?_
      repeat (first | refine Run.seq ?_ | refine Run.skip ?_ | refine Run.block ?_)
      refine Run.region ?_
      refine O.load hE T46 rfl rfl rfl rfl ?_
      refine O.callE cb rfl (by first | rfl | simp [closed, men3, mens2_app, mens2_ints, mens2, men2, men1, mens1_app, mens1_ints, mens1]) (by first | rfl | simp [d2, ds1_ints, ds1_app, ds1, d1, ds0_app, ds0_ints, ds0, d0]) rfl ?_
      refine O.assign rfl rfl ?_
      refine O.nil ?_
      try refine Run.keep [0, 2, 3, 4, 5, 8, 9, 10, 11, 12, 19, 34, 41] rfl rfl ?_
      repeat (first | refine Run.seq ?_ | refine Run.skip ?_ | refine Run.block ?_)
      refine Run.region ?_
      refine O.move rfl rfl ?_
      first | refine O.cmp rfl rfl rfl (by first | exact decide_eq_true (by omega) | exact decide_eq_false (by omega)) rfl ?_ | refine O.cmp rfl rfl rfl rfl rfl ?_
      refine O.nil ?_
      try refine Run.keep [0, 2, 3, 4, 5, 8, 9, 10, 11, 12, 19, 34, 41] rfl rfl ?_
      repeat (first | refine Run.seq ?_ | refine Run.skip ?_)
      first | refine Run.condT rfl rfl ?_ | refine Run.condF rfl rfl ?_ | refine Run.condT rfl (by assumption) ?_ | refine Run.condF rfl (by assumption) ?_
      repeat (first | refine Run.seq ?_ | refine Run.skip ?_ | refine Run.block ?_)
      refine Run.draw mixed rfl ?_
      refine D.move rfl rfl ?_
      refine D.cmp (c' := false) rfl rfl rfl (by simp) rfl ?_
      refine D.move rfl rfl ?_
      first | (refine D.yes rfl rfl (by first | rfl | assumption) ?_; refine D.move rfl rfl ?_) | refine D.no rfl rfl rfl rfl ?_
      first | (refine D.yes rfl rfl (by first | rfl | assumption) ?_; refine D.move rfl rfl ?_) | refine D.no rfl rfl rfl rfl ?_
      first | (refine D.yes rfl rfl (by first | rfl | assumption) ?_; first | refine D.ar rfl rfl rfl (by exact wrap_i64 (by omega) (by omega)) rfl ?_ | refine D.ar rfl rfl rfl rfl rfl ?_) | refine D.no rfl rfl rfl rfl ?_
      first | (refine D.yes rfl rfl (by first | rfl | assumption) ?_; refine D.index hE T42 rfl T46 rfl rfl newest_pv rfl (by omega) hat rfl rfl rfl ?_) | refine D.no rfl rfl rfl rfl ?_
      first | (refine D.yes rfl rfl (by first | rfl | assumption) ?_; refine D.load hE T46 rfl rfl rfl rfl ?_) | refine D.no rfl rfl rfl rfl ?_
      first | (refine D.yes rfl rfl (by first | rfl | assumption) ?_; refine D.callE cp rfl (by first | rfl | simp [closed, men3, mens2_app, mens2_ints, mens2, men2, men1, mens1_app, mens1_ints, mens1]) (by first | rfl | simp [d2, ds1_ints, ds1_app, ds1, d1, ds0_app, ds0_ints, ds0, d0]) rfl ?_) | refine D.no rfl rfl rfl rfl ?_
      first | (refine D.yes rfl rfl (by first | rfl | assumption) ?_; refine D.load hE T46 rfl rfl rfl rfl ?_) | refine D.no rfl rfl rfl rfl ?_
      first | (refine D.yes rfl rfl (by first | rfl | assumption) ?_; refine D.callE cp rfl (by first | rfl | simp [closed, men3, mens2_app, mens2_ints, mens2, men2, men1, mens1_app, mens1_ints, mens1]) (by first | rfl | simp [d2, ds1_ints, ds1_app, ds1, d1, ds0_app, ds0_ints, ds0, d0]) rfl ?_) | refine D.no rfl rfl rfl rfl ?_
      first | (refine D.yes rfl rfl (by first | rfl | assumption) ?_; refine D.callE ((fnBefore (g := g) ⟨fr, tt, ob, rt, op⟩ ⟨fr, tt, ob, rt, op⟩)) rfl (by first | rfl | simp [closed, men3, mens2_app, mens2_ints, mens2, men2, men1, mens1_app, mens1_ints, mens1]) (by first | rfl | simp [d2, ds1_ints, ds1_app, ds1, d1, ds0_app, ds0_ints, ds0, d0]) rfl ?_) | refine D.no rfl rfl rfl rfl ?_
      first | (refine D.yes rfl rfl (by first | rfl | assumption) ?_; refine D.un rfl rfl rfl rfl rfl ?_) | refine D.no rfl rfl rfl rfl ?_
      refine D.pick rfl rfl rfl rfl rfl ?_
      refine Dr.nil ?_
      refine ⟨rfl, ?_⟩
      try refine Run.keep [0, 2, 3, 4, 5, 8, 9, 10, 11, 12, 19, 34, 41] rfl rfl ?_
      repeat (first | refine Run.seq ?_ | refine Run.skip ?_)
      first | refine Run.condT rfl rfl ?_ | refine Run.condF rfl rfl ?_ | refine Run.condT rfl (by assumption) ?_ | refine Run.condF rfl (by assumption) ?_
      repeat (first | refine Run.seq ?_ | refine Run.skip ?_ | refine Run.block ?_)
      refine Run.region ?_
      first | refine O.ar rfl rfl rfl (by exact wrap_i64 (by omega) (by omega)) rfl ?_ | refine O.ar rfl rfl rfl rfl rfl ?_
      refine O.move rfl rfl ?_
      refine O.nil ?_
      try refine Run.keep [0, 2, 3, 4, 5, 8, 9, 10, 11, 12, 19, 34, 41] rfl rfl ?_
      refine ih (0 + 1) _ ?_ (by omega) (by omega)
      exact SLe.drop (by repeat (first | exact TmIn.nil | refine TmIn.cons rfl ?_)) (by repeat (first | exact BxIn.nil | refine BxIn.cons rfl ?_)) rfl rfl
    ·
      obtain ⟨y, hy⟩ : ∃ y, l[j - 1]? = some y := ⟨_, List.getElem?_eq_getElem (by omega)⟩
      have haty : (l.map grE)[((j : Int) - 1).toNat]? = some (grE y) := by rw [show ((j : Int) - 1).toNat = j - 1 by omega, List.getElem?_map, hy]; rfl
      have cpy := fnPlaced (g := g) y
      have cby := fnBefore (g := g) y x
      rw [h.r (j - 1) y x hy (by rw [show j - 1 + 1 = j by omega]; exact hx)] at cby
      obtain ⟨fr, tt, ob, rt, op⟩ := x
      obtain ⟨yfr, ytt, yob, yrt, yop⟩ := y
      repeat (first | refine Run.seq ?_ | refine Run.skip ?_ | refine Run.block ?_)
      refine Run.region ?_
      first | refine O.cmp rfl rfl rfl (by first | exact decide_eq_true (by omega) | exact decide_eq_false (by omega)) rfl ?_ | refine O.cmp rfl rfl rfl rfl rfl ?_
      refine O.nil ?_
      try refine Run.keep [0, 2, 3, 4, 5, 8, 9, 10, 11, 12, 19, 34, 41] rfl rfl ?_
      repeat (first | refine Run.seq ?_ | refine Run.skip ?_)
      first | refine Run.condT rfl rfl ?_ | refine Run.condF rfl rfl ?_ | refine Run.condT rfl (by assumption) ?_ | refine Run.condF rfl (by assumption) ?_
      repeat (first | refine Run.seq ?_ | refine Run.skip ?_ | refine Run.block ?_)
      refine Run.region ?_
      refine O.move rfl rfl ?_
      refine O.index hE T42 rfl T46 rfl rfl newest_pv rfl (by omega) hat rfl rfl rfl ?_
      refine O.load hE T46 rfl rfl rfl rfl ?_
      refine O.alloc hE 4 T46 rfl rfl rfl ?_
      refine O.assign rfl rfl ?_
      refine O.store hE T46 rfl rfl rfl rfl rfl rfl ?_
      refine O.nil ?_
      try refine Run.keep [0, 2, 3, 4, 5, 8, 9, 10, 11, 12, 19, 34, 41] rfl rfl ?_
      repeat (first | refine Run.seq ?_ | refine Run.skip ?_ | refine Run.block ?_)
      refine Run.region ?_
      refine O.load hE T46 rfl rfl rfl rfl ?_
      refine O.callE cb rfl (by first | rfl | simp [closed, men3, mens2_app, mens2_ints, mens2, men2, men1, mens1_app, mens1_ints, mens1]) (by first | rfl | simp [d2, ds1_ints, ds1_app, ds1, d1, ds0_app, ds0_ints, ds0, d0]) rfl ?_
      refine O.assign rfl rfl ?_
      refine O.nil ?_
      try refine Run.keep [0, 2, 3, 4, 5, 8, 9, 10, 11, 12, 19, 34, 41] rfl rfl ?_
      repeat (first | refine Run.seq ?_ | refine Run.skip ?_ | refine Run.block ?_)
      refine Run.region ?_
      refine O.move rfl rfl ?_
      first | refine O.cmp rfl rfl rfl (by first | exact decide_eq_true (by omega) | exact decide_eq_false (by omega)) rfl ?_ | refine O.cmp rfl rfl rfl rfl rfl ?_
      refine O.nil ?_
      try refine Run.keep [0, 2, 3, 4, 5, 8, 9, 10, 11, 12, 19, 34, 41] rfl rfl ?_
      repeat (first | refine Run.seq ?_ | refine Run.skip ?_)
      first | refine Run.condT rfl rfl ?_ | refine Run.condF rfl rfl ?_ | refine Run.condT rfl (by assumption) ?_ | refine Run.condF rfl (by assumption) ?_
      repeat (first | refine Run.seq ?_ | refine Run.skip ?_ | refine Run.block ?_)
      refine Run.draw mixed rfl ?_
      refine D.move rfl rfl ?_
      refine D.cmp (c' := true) rfl rfl rfl (decide_eq_true (by omega)) rfl ?_
      refine D.move rfl rfl ?_
      first | (refine D.yes rfl rfl (by first | rfl | assumption) ?_; refine D.move rfl rfl ?_) | refine D.no rfl rfl rfl rfl ?_
      first | (refine D.yes rfl rfl (by first | rfl | assumption) ?_; refine D.move rfl rfl ?_) | refine D.no rfl rfl rfl rfl ?_
      first | (refine D.yes rfl rfl (by first | rfl | assumption) ?_; refine D.ar (q := (j : Int) - 1) rfl rfl rfl (wrap_i64 (by omega) (by omega)) rfl ?_) | refine D.no rfl rfl rfl rfl ?_
      first | (refine D.yes rfl rfl (by first | rfl | assumption) ?_; refine D.index hE T42 rfl T46 rfl rfl newest_pv rfl (by omega) haty rfl rfl rfl ?_) | refine D.no rfl rfl rfl rfl ?_
      first | (refine D.yes rfl rfl (by first | rfl | assumption) ?_; refine D.load hE T46 rfl rfl rfl rfl ?_) | refine D.no rfl rfl rfl rfl ?_
      first | (refine D.yes rfl rfl (by first | rfl | assumption) ?_; refine D.callE cpy rfl (by first | rfl | simp [closed, men3, mens2_app, mens2_ints, mens2, men2, men1, mens1_app, mens1_ints, mens1]) (by first | rfl | simp [d2, ds1_ints, ds1_app, ds1, d1, ds0_app, ds0_ints, ds0, d0]) rfl ?_) | refine D.no rfl rfl rfl rfl ?_
      first | (refine D.yes rfl rfl (by first | rfl | assumption) ?_; refine D.load hE T46 rfl rfl rfl rfl ?_) | refine D.no rfl rfl rfl rfl ?_
      first | (refine D.yes rfl rfl (by first | rfl | assumption) ?_; refine D.callE cp rfl (by first | rfl | simp [closed, men3, mens2_app, mens2_ints, mens2, men2, men1, mens1_app, mens1_ints, mens1]) (by first | rfl | simp [d2, ds1_ints, ds1_app, ds1, d1, ds0_app, ds0_ints, ds0, d0]) rfl ?_) | refine D.no rfl rfl rfl rfl ?_
      first | (refine D.yes rfl rfl (by first | rfl | assumption) ?_; refine D.callE cby rfl (by first | rfl | simp [closed, men3, mens2_app, mens2_ints, mens2, men2, men1, mens1_app, mens1_ints, mens1]) (by first | rfl | simp [d2, ds1_ints, ds1_app, ds1, d1, ds0_app, ds0_ints, ds0, d0]) rfl ?_) | refine D.no rfl rfl rfl rfl ?_
      first | (refine D.yes rfl rfl (by first | rfl | assumption) ?_; refine D.un rfl rfl rfl rfl rfl ?_) | refine D.no rfl rfl rfl rfl ?_
      refine D.pick rfl rfl rfl rfl rfl ?_
      refine Dr.nil ?_
      refine ⟨rfl, ?_⟩
      try refine Run.keep [0, 2, 3, 4, 5, 8, 9, 10, 11, 12, 19, 34, 41] rfl rfl ?_
      repeat (first | refine Run.seq ?_ | refine Run.skip ?_)
      first | refine Run.condT rfl rfl ?_ | refine Run.condF rfl rfl ?_ | refine Run.condT rfl (by assumption) ?_ | refine Run.condF rfl (by assumption) ?_
      repeat (first | refine Run.seq ?_ | refine Run.skip ?_ | refine Run.block ?_)
      refine Run.region ?_
      first | refine O.ar rfl rfl rfl (by exact wrap_i64 (by omega) (by omega)) rfl ?_ | refine O.ar rfl rfl rfl rfl rfl ?_
      refine O.move rfl rfl ?_
      refine O.nil ?_
      try refine Run.keep [0, 2, 3, 4, 5, 8, 9, 10, 11, 12, 19, 34, 41] rfl rfl ?_
      refine ih (j + 1) _ ?_ (by omega) (by omega)
      exact SLe.drop (by repeat (first | exact TmIn.nil | refine TmIn.cons rfl ?_)) (by repeat (first | exact BxIn.nil | refine BxIn.cons rfl ?_)) rfl rfl
  obtain rfl : j = l.length := by omega
  repeat (first | refine Run.seq ?_ | refine Run.skip ?_ | refine Run.block ?_)
  refine Run.region ?_
  first | refine O.cmp rfl rfl rfl (by first | exact decide_eq_true (by omega) | exact decide_eq_false (by omega)) rfl ?_ | refine O.cmp rfl rfl rfl rfl rfl ?_
  refine O.nil ?_
  try refine Run.keep [0, 2, 3, 4, 5, 8, 9, 10, 11, 12, 19, 34, 41] rfl rfl ?_
  repeat (first | refine Run.seq ?_ | refine Run.skip ?_)
  first | refine Run.condT rfl rfl ?_ | refine Run.condF rfl rfl ?_ | refine Run.condT rfl (by assumption) ?_ | refine Run.condF rfl (by assumption) ?_
  refine Run.exit ?_
  repeat (first | refine thenR_exit ?_ | refine roundR_exit ?_ | refine blockR_exit ?_ | refine blockR_pass rfl ?_)
  repeat (first | refine Run.seq ?_ | refine Run.skip ?_ | refine Run.block ?_)
  refine Run.region ?_
  refine O.move rfl rfl ?_
  refine O.callE ch rfl (by first | rfl | simp [closed, men3, mens2_app, mens2_ints, mens2, men2, men1, mens1_app, mens1_ints, mens1]) (by first | rfl | simp [d2, ds1_ints, ds1_app, ds1, d1, ds0_app, ds0_ints, ds0, d0]) rfl ?_
  refine O.lenN hE T42 rfl rfl rfl newest_pv hhl rfl ?_
  refine O.move rfl rfl ?_
  refine O.lenN hE T42 rfl rfl rfl newest_pv hlm rfl ?_
  first | refine O.cmp rfl rfl rfl (by first | exact decide_eq_true (by omega) | exact decide_eq_false (by omega)) rfl ?_ | refine O.cmp rfl rfl rfl rfl rfl ?_
  refine O.nil ?_
  try refine Run.keep [0, 2, 3, 4, 5, 8, 9, 10, 11, 12, 19, 34, 41] rfl rfl ?_
  repeat (first | refine Run.seq ?_ | refine Run.skip ?_)
  first | refine Run.condT rfl rfl ?_ | refine Run.condF rfl rfl ?_ | refine Run.condT rfl (by assumption) ?_ | refine Run.condF rfl (by assumption) ?_
  repeat (first | refine Run.seq ?_ | refine Run.skip ?_ | refine Run.block ?_)
  refine Run.region ?_
  refine O.assign rfl rfl ?_
  refine O.nil ?_
  try refine Run.keep [0, 2, 3, 4, 5, 8, 9, 10, 11, 12, 19, 34, 41] rfl rfl ?_
  (repeat (first | refine Run.seq ?_ | refine Run.skip ?_)); (try refine Run.ret ?_); first | exact Ends.flat hE (.inr rfl) rfl rfl (AVle.of_eq rfl) rfl | exact Ends.flat hE (.inl rfl) rfl rfl (AVle.of_eq rfl) rfl
theorem fnAskedR {l : List Gr} (h : LOk l) {u o r : Int} (hu : 0 ≤ u ∧ u < 3) (ho : 0 ≤ o ∧ o < 12) (hr : r = 1 ∨ r = 2) : FnC (En Try.prog g) 29 [.pv (.lst 5 (l.map grE)), .pv (.int .i64 u), .pv (.int .i64 o), .pv (.int .i64 r)] (.pv (.int .i64 0)) [] := by
  have hE := EnOk g
  have c1 := fnRCheck (g := g) h
  refine FnC.of Try.func29 rfl rfl rfl rfl ?_
  repeat (first | refine Run.seq ?_ | refine Run.skip ?_ | refine Run.block ?_)
  refine Run.region ?_
  refine O.assign rfl rfl ?_
  refine O.nil ?_
  try refine Run.keep [0, 1, 2, 3, 8, 9, 13, 28, 34] rfl rfl ?_
  repeat (first | refine Run.seq ?_ | refine Run.skip ?_ | refine Run.block ?_)
  refine Run.region ?_
  refine O.move rfl rfl ?_
  refine O.callE c1 rfl (by first | rfl | simp [closed, men3, mens2_app, mens2_ints, mens2, men2, men1, mens1_app, mens1_ints, mens1]) (by first | rfl | simp [d2, ds1_ints, ds1_app, ds1, d1, ds0_app, ds0_ints, ds0, d0]) rfl ?_
  refine O.assign rfl rfl ?_
  refine O.nil ?_
  try refine Run.keep [0, 1, 2, 3, 8, 9, 13, 28, 34] rfl rfl ?_
  repeat (first | refine Run.seq ?_ | refine Run.skip ?_ | refine Run.block ?_)
  refine Run.region ?_
  refine O.move rfl rfl ?_
  first | refine O.cmp rfl rfl rfl (by first | exact decide_eq_true (by omega) | exact decide_eq_false (by omega)) rfl ?_ | refine O.cmp rfl rfl rfl rfl rfl ?_
  refine O.nil ?_
  try refine Run.keep [0, 1, 2, 3, 8, 9, 13, 28, 34] rfl rfl ?_
  repeat (first | refine Run.seq ?_ | refine Run.skip ?_)
  first | refine Run.condT rfl rfl ?_ | refine Run.condF rfl rfl ?_ | refine Run.condT rfl (by assumption) ?_ | refine Run.condF rfl (by assumption) ?_
  repeat (first | refine Run.seq ?_ | refine Run.skip ?_ | refine Run.block ?_)
  refine Run.region ?_
  refine O.move rfl rfl ?_
  first | refine O.cmp rfl rfl rfl (by first | exact decide_eq_true (by omega) | exact decide_eq_false (by omega)) rfl ?_ | refine O.cmp rfl rfl rfl rfl rfl ?_
  refine O.move rfl rfl ?_
  first | (refine O.yes rfl rfl (by first | rfl | assumption) ?_; refine O.move rfl rfl ?_) | refine O.no rfl rfl rfl rfl ?_
  first | (refine O.yes rfl rfl (by first | rfl | assumption) ?_; first | refine O.cmp rfl rfl rfl (by first | exact decide_eq_true (by omega) | exact decide_eq_false (by omega)) rfl ?_ | refine O.cmp rfl rfl rfl rfl rfl ?_) | refine O.no rfl rfl rfl rfl ?_
  refine O.pick rfl rfl rfl rfl rfl ?_
  refine O.move rfl rfl ?_
  first | (refine O.yes rfl rfl (by first | rfl | assumption) ?_; refine O.move rfl rfl ?_) | refine O.no rfl rfl rfl rfl ?_
  first | (refine O.yes rfl rfl (by first | rfl | assumption) ?_; first | refine O.cmp rfl rfl rfl (by first | exact decide_eq_true (by omega) | exact decide_eq_false (by omega)) rfl ?_ | refine O.cmp rfl rfl rfl rfl rfl ?_) | refine O.no rfl rfl rfl rfl ?_
  refine O.pick rfl rfl rfl rfl rfl ?_
  refine O.move rfl rfl ?_
  first | (refine O.yes rfl rfl (by first | rfl | assumption) ?_; refine O.move rfl rfl ?_) | refine O.no rfl rfl rfl rfl ?_
  first | (refine O.yes rfl rfl (by first | rfl | assumption) ?_; first | refine O.cmp rfl rfl rfl (by first | exact decide_eq_true (by omega) | exact decide_eq_false (by omega)) rfl ?_ | refine O.cmp rfl rfl rfl rfl rfl ?_) | refine O.no rfl rfl rfl rfl ?_
  refine O.pick rfl rfl rfl rfl rfl ?_
  refine O.nil ?_
  try refine Run.keep [0, 1, 2, 3, 8, 9, 13, 28, 34] rfl rfl ?_
  repeat (first | refine Run.seq ?_ | refine Run.skip ?_)
  first | refine Run.condT rfl rfl ?_ | refine Run.condF rfl rfl ?_ | refine Run.condT rfl (by assumption) ?_ | refine Run.condF rfl (by assumption) ?_
  rcases hr with rfl | rfl
  ·
    repeat (first | refine Run.seq ?_ | refine Run.skip ?_ | refine Run.block ?_)
    refine Run.region ?_
    refine O.move rfl rfl ?_
    first | refine O.cmp rfl rfl rfl (by first | exact decide_eq_true (by omega) | exact decide_eq_false (by omega)) rfl ?_ | refine O.cmp rfl rfl rfl rfl rfl ?_
    refine O.move rfl rfl ?_
    first | (refine O.yes rfl rfl (by first | rfl | assumption) ?_; refine O.move rfl rfl ?_) | refine O.no rfl rfl rfl rfl ?_
    first | (refine O.yes rfl rfl (by first | rfl | assumption) ?_; first | refine O.cmp rfl rfl rfl (by first | exact decide_eq_true (by omega) | exact decide_eq_false (by omega)) rfl ?_ | refine O.cmp rfl rfl rfl rfl rfl ?_) | refine O.no rfl rfl rfl rfl ?_
    refine O.pick rfl rfl rfl rfl rfl ?_
    refine O.nil ?_
    try refine Run.keep [0, 1, 2, 3, 8, 9, 13, 28, 34] rfl rfl ?_
    repeat (first | refine Run.seq ?_ | refine Run.skip ?_)
    first | refine Run.condT rfl rfl ?_ | refine Run.condF rfl rfl ?_ | refine Run.condT rfl (by assumption) ?_ | refine Run.condF rfl (by assumption) ?_
    repeat (first | refine Run.seq ?_ | refine Run.skip ?_ | refine Run.block ?_)
    refine Run.region ?_
    refine O.assign rfl rfl ?_
    refine O.nil ?_
    try refine Run.keep [0, 1, 2, 3, 8, 9, 13, 28, 34] rfl rfl ?_
    (repeat (first | refine Run.seq ?_ | refine Run.skip ?_)); (try refine Run.ret ?_); first | exact Ends.flat hE (.inr rfl) rfl rfl (AVle.of_eq rfl) rfl | exact Ends.flat hE (.inl rfl) rfl rfl (AVle.of_eq rfl) rfl
  ·
    repeat (first | refine Run.seq ?_ | refine Run.skip ?_ | refine Run.block ?_)
    refine Run.region ?_
    refine O.move rfl rfl ?_
    first | refine O.cmp rfl rfl rfl (by first | exact decide_eq_true (by omega) | exact decide_eq_false (by omega)) rfl ?_ | refine O.cmp rfl rfl rfl rfl rfl ?_
    refine O.move rfl rfl ?_
    first | (refine O.yes rfl rfl (by first | rfl | assumption) ?_; refine O.move rfl rfl ?_) | refine O.no rfl rfl rfl rfl ?_
    first | (refine O.yes rfl rfl (by first | rfl | assumption) ?_; first | refine O.cmp rfl rfl rfl (by first | exact decide_eq_true (by omega) | exact decide_eq_false (by omega)) rfl ?_ | refine O.cmp rfl rfl rfl rfl rfl ?_) | refine O.no rfl rfl rfl rfl ?_
    refine O.pick rfl rfl rfl rfl rfl ?_
    refine O.nil ?_
    try refine Run.keep [0, 1, 2, 3, 8, 9, 13, 28, 34] rfl rfl ?_
    repeat (first | refine Run.seq ?_ | refine Run.skip ?_)
    first | refine Run.condT rfl rfl ?_ | refine Run.condF rfl rfl ?_ | refine Run.condT rfl (by assumption) ?_ | refine Run.condF rfl (by assumption) ?_
    repeat (first | refine Run.seq ?_ | refine Run.skip ?_ | refine Run.block ?_)
    refine Run.region ?_
    refine O.assign rfl rfl ?_
    refine O.nil ?_
    try refine Run.keep [0, 1, 2, 3, 8, 9, 13, 28, 34] rfl rfl ?_
    (repeat (first | refine Run.seq ?_ | refine Run.skip ?_)); (try refine Run.ret ?_); first | exact Ends.flat hE (.inr rfl) rfl rfl (AVle.of_eq rfl) rfl | exact Ends.flat hE (.inl rfl) rfl rfl (AVle.of_eq rfl) rfl
/-- A grant put among others. -/
def gv (x : Gr) (l : List Gr) : Nat → List Gr × Bool
  | 0 => ([], false)
  | j + 1 => match l[j]? with
    | some h => ((if (gv x l j).2 = false ∧ bef x h = true then (gv x l j).1 ++ [x] else (gv x l j).1) ++ [h], (gv x l j).2 || bef x h)
    | none => gv x l j
def giveP (l : List Gr) (x : Gr) : List Gr := if (gv x l l.length).2 = true then (gv x l l.length).1 else (gv x l l.length).1 ++ [x]
theorem gv_len (x : Gr) (l : List Gr) : ∀ j, (gv x l j).1.length ≤ 2 * j
  | 0 => by simp [gv]
  | j + 1 => by
    have := gv_len x l j
    rw [gv]
    split
    · dsimp only
      split <;> simp <;> omega
    · omega
theorem fnGive {l : List Gr} {x : Gr} (h : LOk l) (hx : gOk x = true) (hm : mayP l x.fr x.ob x.rt = true) (hs : ∀ y ∈ l, samePl y x = false) : FnC (En Try.prog g) 13 [.pv (.lst 5 (l.map grE)), grA x] (.tup [.pv (.lst 5 ((giveP l x).map grE)), .pv (.int .i64 0)]) [] := by
  have hE := EnOk g
  have hn := h.n
  have hlm : (((l.map grE).length : Nat) : Int) = l.length := by simp
  have c1 := fnRCheck (g := g) h
  have c2 := fnBounds (g := g) hx
  obtain ⟨_, _, _, _, h5, h6, _⟩ := gOk_to hx
  have c3 := fnMay (g := g) (l := l) (u := x.fr) (o := x.ob) (r := x.rt) h5 h6 (by omega)
  rw [hm] at c3
  have cp := fnPlaced (g := g) x
  have hP : giveP l x = if (gv x l l.length).2 = true then (gv x l l.length).1 else (gv x l l.length).1 ++ [x] := rfl
  have hgl := gv_len x l
  have hsl : ∀ y ∈ l, ∀ w, (Op.equalIn 10000 63 (.agg [Value.int .i64 y.ob, .int .i64 y.rt, .int .i64 y.fr, .int .i64 y.tt].toArray) (.agg [Value.int .i64 x.ob, .int .i64 x.rt, .int .i64 x.fr, .int .i64 x.tt].toArray)).run Try.prog w = .ok false w := fun y hy w => by rw [eq_pl, hs y hy]
  have hstep : ∀ j y, l[j]? = some y → gv x l (j + 1) = ((if (gv x l j).2 = false ∧ bef x y = true then (gv x l j).1 ++ [x] else (gv x l j).1) ++ [y], (gv x l j).2 || bef x y) := fun j y hy => by rw [gv, hy]
  have hbf : ∀ y, FnC (En Try.prog g) 27 [plA x, plA y] (.pv (.bool (bef x y))) [] := fun y => fnBefore x y
  clear hm hs h5 h6
  generalize hB : bef x = B at *
  generalize hV : gv x l = V at *
  have hV0 : V 0 = ([], false) := by rw [← hV]; rfl
  clear hB hV hx
  obtain ⟨xfr, xtt, xob, xrt, xop⟩ := x
  dsimp only at c3 hsl
  dsimp only [grA]
  refine FnC.of Try.func13 rfl rfl rfl rfl ?_
  repeat (first | refine Run.seq ?_ | refine Run.skip ?_ | refine Run.block ?_)
  refine Run.region ?_
  refine O.box 3 rfl (by first | rfl | exact cells_ones (by simp [ones_app, ones_ints, ones, AV.one, PV.one])) rfl rfl ?_
  refine O.assign rfl rfl ?_
  refine O.assign rfl rfl ?_
  refine O.nil ?_
  try refine Run.keep [0, 1, 3, 4, 5, 6, 7, 8, 9, 11, 15, 20, 30, 31, 32, 33, 34, 41, 57, 68] rfl rfl ?_
  repeat (first | refine Run.seq ?_ | refine Run.skip ?_ | refine Run.block ?_)
  refine Run.region ?_
  refine O.move rfl rfl ?_
  refine O.callE c1 rfl (by first | rfl | simp [closed, men3, mens2_app, mens2_ints, mens2, men2, men1, mens1_app, mens1_ints, mens1]) (by first | rfl | simp [d2, ds1_ints, ds1_app, ds1, d1, ds0_app, ds0_ints, ds0, d0]) rfl ?_
  refine O.assign rfl rfl ?_
  refine O.nil ?_
  try refine Run.keep [0, 1, 3, 4, 5, 6, 7, 8, 9, 11, 15, 20, 30, 31, 32, 33, 34, 41, 57, 68] rfl rfl ?_
  repeat (first | refine Run.seq ?_ | refine Run.skip ?_ | refine Run.block ?_)
  refine Run.region ?_
  refine O.move rfl rfl ?_
  first | refine O.cmp rfl rfl rfl (by first | exact decide_eq_true (by omega) | exact decide_eq_false (by omega)) rfl ?_ | refine O.cmp rfl rfl rfl rfl rfl ?_
  refine O.nil ?_
  try refine Run.keep [0, 1, 3, 4, 5, 6, 7, 8, 9, 11, 15, 20, 30, 31, 32, 33, 34, 41, 57, 68] rfl rfl ?_
  repeat (first | refine Run.seq ?_ | refine Run.skip ?_)
  first | refine Run.condT rfl rfl ?_ | refine Run.condF rfl rfl ?_ | refine Run.condT rfl (by assumption) ?_ | refine Run.condF rfl (by assumption) ?_
  repeat (first | refine Run.seq ?_ | refine Run.skip ?_ | refine Run.block ?_)
  refine Run.region ?_
  refine O.load hE T46 rfl rfl rfl rfl ?_
  refine O.callE c2 rfl (by first | rfl | simp [closed, men3, mens2_app, mens2_ints, mens2, men2, men1, mens1_app, mens1_ints, mens1]) (by first | rfl | simp [d2, ds1_ints, ds1_app, ds1, d1, ds0_app, ds0_ints, ds0, d0]) rfl ?_
  refine O.assign rfl rfl ?_
  refine O.nil ?_
  try refine Run.keep [0, 1, 3, 4, 5, 6, 7, 8, 9, 11, 15, 20, 30, 31, 32, 33, 34, 41, 57, 68] rfl rfl ?_
  repeat (first | refine Run.seq ?_ | refine Run.skip ?_ | refine Run.block ?_)
  refine Run.region ?_
  refine O.move rfl rfl ?_
  first | refine O.cmp rfl rfl rfl (by first | exact decide_eq_true (by omega) | exact decide_eq_false (by omega)) rfl ?_ | refine O.cmp rfl rfl rfl rfl rfl ?_
  refine O.nil ?_
  try refine Run.keep [0, 1, 3, 4, 5, 6, 7, 8, 9, 11, 15, 20, 30, 31, 32, 33, 34, 41, 57, 68] rfl rfl ?_
  repeat (first | refine Run.seq ?_ | refine Run.skip ?_)
  first | refine Run.condT rfl rfl ?_ | refine Run.condF rfl rfl ?_ | refine Run.condT rfl (by assumption) ?_ | refine Run.condF rfl (by assumption) ?_
  repeat (first | refine Run.seq ?_ | refine Run.skip ?_ | refine Run.block ?_)
  refine Run.region ?_
  refine O.move rfl rfl ?_
  refine O.field hE L46 rfl rfl rfl rfl ?_
  first | refine O.loadS hE T3 rfl rfl rfl (by rfl) rfl ?_ | refine O.loadE hE T3 rfl rfl (by rfl) rfl ?_ | refine O.load hE T3 rfl rfl rfl rfl ?_
  refine O.field hE L46 rfl rfl rfl rfl ?_
  first | refine O.loadS hE T3 rfl rfl rfl (by rfl) rfl ?_ | refine O.loadE hE T3 rfl rfl (by rfl) rfl ?_ | refine O.load hE T3 rfl rfl rfl rfl ?_
  refine O.field hE L46 rfl rfl rfl rfl ?_
  first | refine O.loadS hE T3 rfl rfl rfl (by rfl) rfl ?_ | refine O.loadE hE T3 rfl rfl (by rfl) rfl ?_ | refine O.load hE T3 rfl rfl rfl rfl ?_
  refine O.callE c3 rfl (by first | rfl | simp [closed, men3, mens2_app, mens2_ints, mens2, men2, men1, mens1_app, mens1_ints, mens1]) (by first | rfl | simp [d2, ds1_ints, ds1_app, ds1, d1, ds0_app, ds0_ints, ds0, d0]) rfl ?_
  refine O.un rfl rfl rfl rfl rfl ?_
  refine O.nil ?_
  try refine Run.keep [0, 1, 3, 4, 5, 6, 7, 8, 9, 11, 15, 20, 30, 31, 32, 33, 34, 41, 57, 68] rfl rfl ?_
  repeat (first | refine Run.seq ?_ | refine Run.skip ?_)
  first | refine Run.condT rfl rfl ?_ | refine Run.condF rfl rfl ?_ | refine Run.condT rfl (by assumption) ?_ | refine Run.condF rfl (by assumption) ?_
  repeat (first | refine Run.seq ?_ | refine Run.skip ?_ | refine Run.block ?_)
  refine Run.region ?_
  refine O.assign rfl rfl ?_
  refine O.nil ?_
  try refine Run.keep [0, 1, 3, 4, 5, 6, 7, 8, 9, 11, 15, 20, 30, 31, 32, 33, 34, 41, 57, 68] rfl rfl ?_
  refine Run.pre (SLe.nilBox (t := 8) (b := 108) (e := 46) (sz := 5) rfl rfl rfl rfl) ?_
  repeat (first | refine Run.seq ?_ | refine Run.skip ?_ | refine Run.block ?_)
  refine Run.region ?_
  refine O.assign rfl rfl ?_
  refine O.nil ?_
  try refine Run.keep [0, 1, 3, 4, 5, 6, 7, 8, 9, 11, 15, 20, 30, 31, 32, 33, 34, 41, 57, 68] rfl rfl ?_
  repeat (first | refine Run.seq ?_ | refine Run.skip ?_ | refine Run.block ?_)
  refine Run.region ?_
  refine O.move rfl rfl ?_
  refine O.lenN hE T42 rfl rfl rfl newest_pv hlm rfl ?_
  refine O.move rfl rfl ?_
  refine O.nil ?_
  try refine Run.keep [0, 1, 3, 4, 5, 6, 7, 8, 9, 11, 15, 20, 30, 31, 32, 33, 34, 41, 57, 68] rfl rfl ?_
  repeat (first | refine Run.seq ?_ | refine Run.skip ?_)
  refine Run.block ?_
  refine Run.loopInv (ι := Nat) (fun j => j ≤ l.length) (fun j => ⟨74, [(3, .ptr 3 0), (8, .gl 108 (V j).1.length), (9, .pv (.bool (V j).2)), (31, .pv (.lst 5 (l.map grE))), (32, .pv (.int .i64 l.length)), (33, .pv (.int .i64 (j : Int)))], [(3, .var [.pv (.int .i64 xfr), .pv (.int .i64 xtt), .pv (.int .i64 xob), .pv (.int .i64 xrt), .pv (.bool xop)]), (108, .lst 46 5 ((V j).1.map grE))]⟩) (fun j => l.length - j) 0 (Nat.zero_le _) ?_ ?_
  ·
    rw [hV0]
    exact SLe.drop (by repeat (first | exact TmIn.nil | refine TmIn.cons rfl ?_)) (by repeat (first | exact BxIn.nil | refine BxIn.cons rfl ?_)) rfl rfl
  rintro j hj ih
  by_cases hlt : j < l.length
  ·
    obtain ⟨y, hy⟩ : ∃ y, l[j]? = some y := ⟨_, List.getElem?_eq_getElem hlt⟩
    have hat : (l.map grE)[(j : Int).toNat]? = some (grE y) := by rw [Int.toNat_natCast, List.getElem?_map, hy]; rfl
    have hst := hstep j y hy
    have cpy := fnPlaced (g := g) y
    have cby := hbf y
    have hsy := hsl y (List.mem_of_getElem? hy)
    have hgj := hgl j
    generalize V j = v at *
    obtain ⟨Q, inn⟩ := v
    dsimp only at hst hgj
    generalize B y = b at *
    obtain ⟨yfr, ytt, yob, yrt, yop⟩ := y
    dsimp only at hsy
    cases inn with
    | true =>
      rw [if_neg (by simp), Bool.true_or] at hst
      repeat (first | refine Run.seq ?_ | refine Run.skip ?_ | refine Run.block ?_)
      refine Run.region ?_
      first | refine O.cmp rfl rfl rfl (by first | exact decide_eq_true (by omega) | exact decide_eq_false (by omega)) rfl ?_ | refine O.cmp rfl rfl rfl rfl rfl ?_
      refine O.nil ?_
      try refine Run.keep [0, 1, 3, 4, 5, 6, 7, 8, 9, 11, 15, 20, 30, 31, 32, 33, 34, 41, 57, 68] rfl rfl ?_
      repeat (first | refine Run.seq ?_ | refine Run.skip ?_)
      first | refine Run.condT rfl rfl ?_ | refine Run.condF rfl rfl ?_ | refine Run.condT rfl (by assumption) ?_ | refine Run.condF rfl (by assumption) ?_
      repeat (first | refine Run.seq ?_ | refine Run.skip ?_ | refine Run.block ?_)
      refine Run.region ?_
      refine O.index hE T42 rfl T46 rfl rfl newest_pv rfl (by omega) hat rfl rfl rfl ?_
      refine O.load hE T46 rfl rfl rfl rfl ?_
      refine O.alloc hE 11 T46 rfl rfl rfl ?_
      refine O.store hE T46 rfl rfl rfl rfl rfl rfl ?_
      refine O.nil ?_
      try refine Run.keep [0, 1, 3, 4, 5, 6, 7, 8, 9, 11, 15, 20, 30, 31, 32, 33, 34, 41, 57, 68] rfl rfl ?_
      repeat (first | refine Run.seq ?_ | refine Run.skip ?_ | refine Run.block ?_)
      refine Run.draw mixed rfl ?_
      refine D.load hE T46 rfl rfl rfl rfl ?_
      refine D.callE cpy rfl (by first | rfl | simp [closed, men3, mens2_app, mens2_ints, mens2, men2, men1, mens1_app, mens1_ints, mens1]) (by first | rfl | simp [d2, ds1_ints, ds1_app, ds1, d1, ds0_app, ds0_ints, ds0, d0]) rfl ?_
      refine D.load hE T46 rfl rfl rfl rfl ?_
      refine D.callE cp rfl (by first | rfl | simp [closed, men3, mens2_app, mens2_ints, mens2, men2, men1, mens1_app, mens1_ints, mens1]) (by first | rfl | simp [d2, ds1_ints, ds1_app, ds1, d1, ds0_app, ds0_ints, ds0, d0]) rfl ?_
      refine D.eqAggG (c := false) rfl rfl rfl rfl (by kernel_rfl) hsy rfl rfl ?_
      refine Dr.nil ?_
      refine ⟨rfl, ?_⟩
      try refine Run.keep [0, 1, 3, 4, 5, 6, 7, 8, 9, 11, 15, 20, 30, 31, 32, 33, 34, 41, 57, 68] rfl rfl ?_
      repeat (first | refine Run.seq ?_ | refine Run.skip ?_)
      first | refine Run.condT rfl rfl ?_ | refine Run.condF rfl rfl ?_ | refine Run.condT rfl (by assumption) ?_ | refine Run.condF rfl (by assumption) ?_
      repeat (first | refine Run.seq ?_ | refine Run.skip ?_ | refine Run.block ?_)
      refine Run.draw mixed rfl ?_
      refine D.move rfl rfl ?_
      refine D.un rfl rfl rfl rfl rfl ?_
      refine D.move rfl rfl ?_
      first | (refine D.yes rfl rfl (by first | rfl | assumption) ?_; refine D.load hE T46 rfl rfl rfl rfl ?_) | refine D.no rfl rfl rfl rfl ?_
      first | (refine D.yes rfl rfl (by first | rfl | assumption) ?_; refine D.callE cp rfl (by first | rfl | simp [closed, men3, mens2_app, mens2_ints, mens2, men2, men1, mens1_app, mens1_ints, mens1]) (by first | rfl | simp [d2, ds1_ints, ds1_app, ds1, d1, ds0_app, ds0_ints, ds0, d0]) rfl ?_) | refine D.no rfl rfl rfl rfl ?_
      first | (refine D.yes rfl rfl (by first | rfl | assumption) ?_; refine D.load hE T46 rfl rfl rfl rfl ?_) | refine D.no rfl rfl rfl rfl ?_
      first | (refine D.yes rfl rfl (by first | rfl | assumption) ?_; refine D.callE cpy rfl (by first | rfl | simp [closed, men3, mens2_app, mens2_ints, mens2, men2, men1, mens1_app, mens1_ints, mens1]) (by first | rfl | simp [d2, ds1_ints, ds1_app, ds1, d1, ds0_app, ds0_ints, ds0, d0]) rfl ?_) | refine D.no rfl rfl rfl rfl ?_
      first | (refine D.yes rfl rfl (by first | rfl | assumption) ?_; refine D.callE cby rfl (by first | rfl | simp [closed, men3, mens2_app, mens2_ints, mens2, men2, men1, mens1_app, mens1_ints, mens1]) (by first | rfl | simp [d2, ds1_ints, ds1_app, ds1, d1, ds0_app, ds0_ints, ds0, d0]) rfl ?_) | refine D.no rfl rfl rfl rfl ?_
      refine D.pick rfl rfl rfl rfl rfl ?_
      refine Dr.nil ?_
      refine ⟨rfl, ?_⟩
      try refine Run.keep [0, 1, 3, 4, 5, 6, 7, 8, 9, 11, 15, 20, 30, 31, 32, 33, 34, 41, 57, 68] rfl rfl ?_
      repeat (first | refine Run.seq ?_ | refine Run.skip ?_)
      first | refine Run.condT rfl rfl ?_ | refine Run.condF rfl rfl ?_ | refine Run.condT rfl (by assumption) ?_ | refine Run.condF rfl (by assumption) ?_
      repeat (first | refine Run.seq ?_ | refine Run.skip ?_ | refine Run.block ?_)
      refine Run.region ?_
      refine O.move rfl rfl ?_
      refine O.load hE T46 rfl rfl rfl rfl ?_
      refine O.litV hE T42 rfl T46 rfl rfl rfl rfl rfl rfl rfl ?_
      refine O.appM grE (q := Q) (r := [⟨yfr, ytt, yob, yrt, yop⟩]) hE T42 rfl T46 rfl rfl rfl rfl rfl newest_pv rfl rfl rfl rfl (by simp; omega) (by simp [maxLen]; omega) rfl ?_
      refine O.assign rfl rfl ?_
      refine O.nil ?_
      try refine Run.keep [0, 1, 3, 4, 5, 6, 7, 8, 9, 11, 15, 20, 30, 31, 32, 33, 34, 41, 57, 68] rfl rfl ?_
      repeat (first | refine Run.seq ?_ | refine Run.skip ?_ | refine Run.block ?_)
      refine Run.region ?_
      first | refine O.ar rfl rfl rfl (by exact wrap_i64 (by omega) (by omega)) rfl ?_ | refine O.ar rfl rfl rfl rfl rfl ?_
      refine O.move rfl rfl ?_
      refine O.nil ?_
      try refine Run.keep [0, 1, 3, 4, 5, 6, 7, 8, 9, 11, 15, 20, 30, 31, 32, 33, 34, 41, 57, 68] rfl rfl ?_
      refine ih (j + 1) _ ?_ (by omega) (by omega)
      rw [hst]
      exact SLe.drop (by repeat (first | exact TmIn.nil | refine TmIn.cons rfl ?_)) (by repeat (first | exact BxIn.nil | refine BxIn.cons rfl ?_)) rfl rfl
    | false =>
      cases b with
      | true =>
        rw [if_pos ⟨rfl, rfl⟩, Bool.false_or] at hst
        repeat (first | refine Run.seq ?_ | refine Run.skip ?_ | refine Run.block ?_)
        refine Run.region ?_
        first | refine O.cmp rfl rfl rfl (by first | exact decide_eq_true (by omega) | exact decide_eq_false (by omega)) rfl ?_ | refine O.cmp rfl rfl rfl rfl rfl ?_
        refine O.nil ?_
        try refine Run.keep [0, 1, 3, 4, 5, 6, 7, 8, 9, 11, 15, 20, 30, 31, 32, 33, 34, 41, 57, 68] rfl rfl ?_
        repeat (first | refine Run.seq ?_ | refine Run.skip ?_)
        first | refine Run.condT rfl rfl ?_ | refine Run.condF rfl rfl ?_ | refine Run.condT rfl (by assumption) ?_ | refine Run.condF rfl (by assumption) ?_
        repeat (first | refine Run.seq ?_ | refine Run.skip ?_ | refine Run.block ?_)
        refine Run.region ?_
        refine O.index hE T42 rfl T46 rfl rfl newest_pv rfl (by omega) hat rfl rfl rfl ?_
        refine O.load hE T46 rfl rfl rfl rfl ?_
        refine O.alloc hE 11 T46 rfl rfl rfl ?_
        refine O.store hE T46 rfl rfl rfl rfl rfl rfl ?_
        refine O.nil ?_
        try refine Run.keep [0, 1, 3, 4, 5, 6, 7, 8, 9, 11, 15, 20, 30, 31, 32, 33, 34, 41, 57, 68] rfl rfl ?_
        repeat (first | refine Run.seq ?_ | refine Run.skip ?_ | refine Run.block ?_)
        refine Run.draw mixed rfl ?_
        refine D.load hE T46 rfl rfl rfl rfl ?_
        refine D.callE cpy rfl (by first | rfl | simp [closed, men3, mens2_app, mens2_ints, mens2, men2, men1, mens1_app, mens1_ints, mens1]) (by first | rfl | simp [d2, ds1_ints, ds1_app, ds1, d1, ds0_app, ds0_ints, ds0, d0]) rfl ?_
        refine D.load hE T46 rfl rfl rfl rfl ?_
        refine D.callE cp rfl (by first | rfl | simp [closed, men3, mens2_app, mens2_ints, mens2, men2, men1, mens1_app, mens1_ints, mens1]) (by first | rfl | simp [d2, ds1_ints, ds1_app, ds1, d1, ds0_app, ds0_ints, ds0, d0]) rfl ?_
        refine D.eqAggG (c := false) rfl rfl rfl rfl (by kernel_rfl) hsy rfl rfl ?_
        refine Dr.nil ?_
        refine ⟨rfl, ?_⟩
        try refine Run.keep [0, 1, 3, 4, 5, 6, 7, 8, 9, 11, 15, 20, 30, 31, 32, 33, 34, 41, 57, 68] rfl rfl ?_
        repeat (first | refine Run.seq ?_ | refine Run.skip ?_)
        first | refine Run.condT rfl rfl ?_ | refine Run.condF rfl rfl ?_ | refine Run.condT rfl (by assumption) ?_ | refine Run.condF rfl (by assumption) ?_
        repeat (first | refine Run.seq ?_ | refine Run.skip ?_ | refine Run.block ?_)
        refine Run.draw mixed rfl ?_
        refine D.move rfl rfl ?_
        refine D.un rfl rfl rfl rfl rfl ?_
        refine D.move rfl rfl ?_
        first | (refine D.yes rfl rfl (by first | rfl | assumption) ?_; refine D.load hE T46 rfl rfl rfl rfl ?_) | refine D.no rfl rfl rfl rfl ?_
        first | (refine D.yes rfl rfl (by first | rfl | assumption) ?_; refine D.callE cp rfl (by first | rfl | simp [closed, men3, mens2_app, mens2_ints, mens2, men2, men1, mens1_app, mens1_ints, mens1]) (by first | rfl | simp [d2, ds1_ints, ds1_app, ds1, d1, ds0_app, ds0_ints, ds0, d0]) rfl ?_) | refine D.no rfl rfl rfl rfl ?_
        first | (refine D.yes rfl rfl (by first | rfl | assumption) ?_; refine D.load hE T46 rfl rfl rfl rfl ?_) | refine D.no rfl rfl rfl rfl ?_
        first | (refine D.yes rfl rfl (by first | rfl | assumption) ?_; refine D.callE cpy rfl (by first | rfl | simp [closed, men3, mens2_app, mens2_ints, mens2, men2, men1, mens1_app, mens1_ints, mens1]) (by first | rfl | simp [d2, ds1_ints, ds1_app, ds1, d1, ds0_app, ds0_ints, ds0, d0]) rfl ?_) | refine D.no rfl rfl rfl rfl ?_
        first | (refine D.yes rfl rfl (by first | rfl | assumption) ?_; refine D.callE cby rfl (by first | rfl | simp [closed, men3, mens2_app, mens2_ints, mens2, men2, men1, mens1_app, mens1_ints, mens1]) (by first | rfl | simp [d2, ds1_ints, ds1_app, ds1, d1, ds0_app, ds0_ints, ds0, d0]) rfl ?_) | refine D.no rfl rfl rfl rfl ?_
        refine D.pick rfl rfl rfl rfl rfl ?_
        refine Dr.nil ?_
        refine ⟨rfl, ?_⟩
        try refine Run.keep [0, 1, 3, 4, 5, 6, 7, 8, 9, 11, 15, 20, 30, 31, 32, 33, 34, 41, 57, 68] rfl rfl ?_
        repeat (first | refine Run.seq ?_ | refine Run.skip ?_)
        first | refine Run.condT rfl rfl ?_ | refine Run.condF rfl rfl ?_ | refine Run.condT rfl (by assumption) ?_ | refine Run.condF rfl (by assumption) ?_
        repeat (first | refine Run.seq ?_ | refine Run.skip ?_ | refine Run.block ?_)
        refine Run.region ?_
        refine O.move rfl rfl ?_
        refine O.load hE T46 rfl rfl rfl rfl ?_
        refine O.litV hE T42 rfl T46 rfl rfl rfl rfl rfl rfl rfl ?_
        refine O.appM grE (q := Q) (r := [⟨xfr, xtt, xob, xrt, xop⟩]) hE T42 rfl T46 rfl rfl rfl rfl rfl newest_pv rfl rfl rfl rfl (by simp; omega) (by simp [maxLen]; omega) rfl ?_
        refine O.assign rfl rfl ?_
        refine O.assign rfl rfl ?_
        refine O.nil ?_
        try refine Run.keep [0, 1, 3, 4, 5, 6, 7, 8, 9, 11, 15, 20, 30, 31, 32, 33, 34, 41, 57, 68] rfl rfl ?_
        repeat (first | refine Run.seq ?_ | refine Run.skip ?_ | refine Run.block ?_)
        refine Run.region ?_
        refine O.move rfl rfl ?_
        refine O.load hE T46 rfl rfl rfl rfl ?_
        refine O.litV hE T42 rfl T46 rfl rfl rfl rfl rfl rfl rfl ?_
        refine O.appM grE (q := Q ++ [⟨xfr, xtt, xob, xrt, xop⟩]) (r := [⟨yfr, ytt, yob, yrt, yop⟩]) hE T42 rfl T46 rfl rfl rfl rfl rfl newest_pv rfl rfl rfl rfl (by simp; omega) (by simp [maxLen]; omega) rfl ?_
        refine O.assign rfl rfl ?_
        refine O.nil ?_
        try refine Run.keep [0, 1, 3, 4, 5, 6, 7, 8, 9, 11, 15, 20, 30, 31, 32, 33, 34, 41, 57, 68] rfl rfl ?_
        repeat (first | refine Run.seq ?_ | refine Run.skip ?_ | refine Run.block ?_)
        refine Run.region ?_
        first | refine O.ar rfl rfl rfl (by exact wrap_i64 (by omega) (by omega)) rfl ?_ | refine O.ar rfl rfl rfl rfl rfl ?_
        refine O.move rfl rfl ?_
        refine O.nil ?_
        try refine Run.keep [0, 1, 3, 4, 5, 6, 7, 8, 9, 11, 15, 20, 30, 31, 32, 33, 34, 41, 57, 68] rfl rfl ?_
        refine ih (j + 1) _ ?_ (by omega) (by omega)
        rw [hst]
        exact SLe.drop (by repeat (first | exact TmIn.nil | refine TmIn.cons rfl ?_)) (by repeat (first | exact BxIn.nil | refine BxIn.cons rfl ?_)) rfl rfl
      | false =>
        rw [if_neg (by simp), Bool.false_or] at hst
        repeat (first | refine Run.seq ?_ | refine Run.skip ?_ | refine Run.block ?_)
        refine Run.region ?_
        first | refine O.cmp rfl rfl rfl (by first | exact decide_eq_true (by omega) | exact decide_eq_false (by omega)) rfl ?_ | refine O.cmp rfl rfl rfl rfl rfl ?_
        refine O.nil ?_
        try refine Run.keep [0, 1, 3, 4, 5, 6, 7, 8, 9, 11, 15, 20, 30, 31, 32, 33, 34, 41, 57, 68] rfl rfl ?_
        repeat (first | refine Run.seq ?_ | refine Run.skip ?_)
        first | refine Run.condT rfl rfl ?_ | refine Run.condF rfl rfl ?_ | refine Run.condT rfl (by assumption) ?_ | refine Run.condF rfl (by assumption) ?_
        repeat (first | refine Run.seq ?_ | refine Run.skip ?_ | refine Run.block ?_)
        refine Run.region ?_
        refine O.index hE T42 rfl T46 rfl rfl newest_pv rfl (by omega) hat rfl rfl rfl ?_
        refine O.load hE T46 rfl rfl rfl rfl ?_
        refine O.alloc hE 11 T46 rfl rfl rfl ?_
        refine O.store hE T46 rfl rfl rfl rfl rfl rfl ?_
        refine O.nil ?_
        try refine Run.keep [0, 1, 3, 4, 5, 6, 7, 8, 9, 11, 15, 20, 30, 31, 32, 33, 34, 41, 57, 68] rfl rfl ?_
        repeat (first | refine Run.seq ?_ | refine Run.skip ?_ | refine Run.block ?_)
        refine Run.draw mixed rfl ?_
        refine D.load hE T46 rfl rfl rfl rfl ?_
        refine D.callE cpy rfl (by first | rfl | simp [closed, men3, mens2_app, mens2_ints, mens2, men2, men1, mens1_app, mens1_ints, mens1]) (by first | rfl | simp [d2, ds1_ints, ds1_app, ds1, d1, ds0_app, ds0_ints, ds0, d0]) rfl ?_
        refine D.load hE T46 rfl rfl rfl rfl ?_
        refine D.callE cp rfl (by first | rfl | simp [closed, men3, mens2_app, mens2_ints, mens2, men2, men1, mens1_app, mens1_ints, mens1]) (by first | rfl | simp [d2, ds1_ints, ds1_app, ds1, d1, ds0_app, ds0_ints, ds0, d0]) rfl ?_
        refine D.eqAggG (c := false) rfl rfl rfl rfl (by kernel_rfl) hsy rfl rfl ?_
        refine Dr.nil ?_
        refine ⟨rfl, ?_⟩
        try refine Run.keep [0, 1, 3, 4, 5, 6, 7, 8, 9, 11, 15, 20, 30, 31, 32, 33, 34, 41, 57, 68] rfl rfl ?_
        repeat (first | refine Run.seq ?_ | refine Run.skip ?_)
        first | refine Run.condT rfl rfl ?_ | refine Run.condF rfl rfl ?_ | refine Run.condT rfl (by assumption) ?_ | refine Run.condF rfl (by assumption) ?_
        repeat (first | refine Run.seq ?_ | refine Run.skip ?_ | refine Run.block ?_)
        refine Run.draw mixed rfl ?_
        refine D.move rfl rfl ?_
        refine D.un rfl rfl rfl rfl rfl ?_
        refine D.move rfl rfl ?_
        first | (refine D.yes rfl rfl (by first | rfl | assumption) ?_; refine D.load hE T46 rfl rfl rfl rfl ?_) | refine D.no rfl rfl rfl rfl ?_
        first | (refine D.yes rfl rfl (by first | rfl | assumption) ?_; refine D.callE cp rfl (by first | rfl | simp [closed, men3, mens2_app, mens2_ints, mens2, men2, men1, mens1_app, mens1_ints, mens1]) (by first | rfl | simp [d2, ds1_ints, ds1_app, ds1, d1, ds0_app, ds0_ints, ds0, d0]) rfl ?_) | refine D.no rfl rfl rfl rfl ?_
        first | (refine D.yes rfl rfl (by first | rfl | assumption) ?_; refine D.load hE T46 rfl rfl rfl rfl ?_) | refine D.no rfl rfl rfl rfl ?_
        first | (refine D.yes rfl rfl (by first | rfl | assumption) ?_; refine D.callE cpy rfl (by first | rfl | simp [closed, men3, mens2_app, mens2_ints, mens2, men2, men1, mens1_app, mens1_ints, mens1]) (by first | rfl | simp [d2, ds1_ints, ds1_app, ds1, d1, ds0_app, ds0_ints, ds0, d0]) rfl ?_) | refine D.no rfl rfl rfl rfl ?_
        first | (refine D.yes rfl rfl (by first | rfl | assumption) ?_; refine D.callE cby rfl (by first | rfl | simp [closed, men3, mens2_app, mens2_ints, mens2, men2, men1, mens1_app, mens1_ints, mens1]) (by first | rfl | simp [d2, ds1_ints, ds1_app, ds1, d1, ds0_app, ds0_ints, ds0, d0]) rfl ?_) | refine D.no rfl rfl rfl rfl ?_
        refine D.pick rfl rfl rfl rfl rfl ?_
        refine Dr.nil ?_
        refine ⟨rfl, ?_⟩
        try refine Run.keep [0, 1, 3, 4, 5, 6, 7, 8, 9, 11, 15, 20, 30, 31, 32, 33, 34, 41, 57, 68] rfl rfl ?_
        repeat (first | refine Run.seq ?_ | refine Run.skip ?_)
        first | refine Run.condT rfl rfl ?_ | refine Run.condF rfl rfl ?_ | refine Run.condT rfl (by assumption) ?_ | refine Run.condF rfl (by assumption) ?_
        repeat (first | refine Run.seq ?_ | refine Run.skip ?_ | refine Run.block ?_)
        refine Run.region ?_
        refine O.move rfl rfl ?_
        refine O.load hE T46 rfl rfl rfl rfl ?_
        refine O.litV hE T42 rfl T46 rfl rfl rfl rfl rfl rfl rfl ?_
        refine O.appM grE (q := Q) (r := [⟨yfr, ytt, yob, yrt, yop⟩]) hE T42 rfl T46 rfl rfl rfl rfl rfl newest_pv rfl rfl rfl rfl (by simp; omega) (by simp [maxLen]; omega) rfl ?_
        refine O.assign rfl rfl ?_
        refine O.nil ?_
        try refine Run.keep [0, 1, 3, 4, 5, 6, 7, 8, 9, 11, 15, 20, 30, 31, 32, 33, 34, 41, 57, 68] rfl rfl ?_
        repeat (first | refine Run.seq ?_ | refine Run.skip ?_ | refine Run.block ?_)
        refine Run.region ?_
        first | refine O.ar rfl rfl rfl (by exact wrap_i64 (by omega) (by omega)) rfl ?_ | refine O.ar rfl rfl rfl rfl rfl ?_
        refine O.move rfl rfl ?_
        refine O.nil ?_
        try refine Run.keep [0, 1, 3, 4, 5, 6, 7, 8, 9, 11, 15, 20, 30, 31, 32, 33, 34, 41, 57, 68] rfl rfl ?_
        refine ih (j + 1) _ ?_ (by omega) (by omega)
        rw [hst]
        exact SLe.drop (by repeat (first | exact TmIn.nil | refine TmIn.cons rfl ?_)) (by repeat (first | exact BxIn.nil | refine BxIn.cons rfl ?_)) rfl rfl
  obtain rfl : j = l.length := by omega
  rw [hP]
  have hgj := hgl l.length
  generalize V l.length = v at *
  obtain ⟨Q, inn⟩ := v
  dsimp only at hgj ⊢
  repeat (first | refine Run.seq ?_ | refine Run.skip ?_ | refine Run.block ?_)
  refine Run.region ?_
  first | refine O.cmp rfl rfl rfl (by first | exact decide_eq_true (by omega) | exact decide_eq_false (by omega)) rfl ?_ | refine O.cmp rfl rfl rfl rfl rfl ?_
  refine O.nil ?_
  try refine Run.keep [0, 1, 3, 4, 5, 6, 7, 8, 9, 11, 15, 20, 30, 31, 32, 33, 34, 41, 57, 68] rfl rfl ?_
  repeat (first | refine Run.seq ?_ | refine Run.skip ?_)
  first | refine Run.condT rfl rfl ?_ | refine Run.condF rfl rfl ?_ | refine Run.condT rfl (by assumption) ?_ | refine Run.condF rfl (by assumption) ?_
  refine Run.exit ?_
  repeat (first | refine thenR_exit ?_ | refine roundR_exit ?_ | refine blockR_exit ?_ | refine blockR_pass rfl ?_)
  cases inn with
  | true =>
    rw [if_pos rfl]
    repeat (first | refine Run.seq ?_ | refine Run.skip ?_ | refine Run.block ?_)
    refine Run.region ?_
    refine O.move rfl rfl ?_
    refine O.un rfl rfl rfl rfl rfl ?_
    refine O.nil ?_
    try refine Run.keep [0, 1, 3, 4, 5, 6, 7, 8, 9, 11, 15, 20, 30, 31, 32, 33, 34, 41, 57, 68] rfl rfl ?_
    repeat (first | refine Run.seq ?_ | refine Run.skip ?_)
    first | refine Run.condT rfl rfl ?_ | refine Run.condF rfl rfl ?_ | refine Run.condT rfl (by assumption) ?_ | refine Run.condF rfl (by assumption) ?_
    repeat (first | refine Run.seq ?_ | refine Run.skip ?_ | refine Run.block ?_)
    refine Run.region ?_
    refine O.move rfl rfl ?_
    refine O.assign rfl rfl ?_
    refine O.assign rfl rfl ?_
    refine O.nil ?_
    try refine Run.keep [0, 1, 3, 4, 5, 6, 7, 8, 9, 11, 15, 20, 30, 31, 32, 33, 34, 41, 57, 68] rfl rfl ?_
    refine Run.ret ?_
    exact Ends.of hE (.inr rfl) rfl rfl (SLe.res0 (AVle.tups (.cons (AVle.lst _ _ _ (lstOf_glV rfl (by simp))) (.cons (AVle.of_eq rfl) .nil))) rfl)
  | false =>
    rw [if_neg (by decide)]
    repeat (first | refine Run.seq ?_ | refine Run.skip ?_ | refine Run.block ?_)
    refine Run.region ?_
    refine O.move rfl rfl ?_
    refine O.un rfl rfl rfl rfl rfl ?_
    refine O.nil ?_
    try refine Run.keep [0, 1, 3, 4, 5, 6, 7, 8, 9, 11, 15, 20, 30, 31, 32, 33, 34, 41, 57, 68] rfl rfl ?_
    repeat (first | refine Run.seq ?_ | refine Run.skip ?_)
    first | refine Run.condT rfl rfl ?_ | refine Run.condF rfl rfl ?_ | refine Run.condT rfl (by assumption) ?_ | refine Run.condF rfl (by assumption) ?_
    repeat (first | refine Run.seq ?_ | refine Run.skip ?_ | refine Run.block ?_)
    refine Run.region ?_
    refine O.move rfl rfl ?_
    refine O.load hE T46 rfl rfl rfl rfl ?_
    refine O.litV hE T42 rfl T46 rfl rfl rfl rfl rfl rfl rfl ?_
    refine O.appM grE (q := Q) (r := [⟨xfr, xtt, xob, xrt, xop⟩]) hE T42 rfl T46 rfl rfl rfl rfl rfl newest_pv rfl rfl rfl rfl (by simp; omega) (by simp [maxLen]; omega) rfl ?_
    refine O.assign rfl rfl ?_
    refine O.nil ?_
    try refine Run.keep [0, 1, 3, 4, 5, 6, 7, 8, 9, 11, 15, 20, 30, 31, 32, 33, 34, 41, 57, 68] rfl rfl ?_
    repeat (first | refine Run.seq ?_ | refine Run.skip ?_ | refine Run.block ?_)
    refine Run.region ?_
    refine O.move rfl rfl ?_
    refine O.assign rfl rfl ?_
    refine O.assign rfl rfl ?_
    refine O.nil ?_
    try refine Run.keep [0, 1, 3, 4, 5, 6, 7, 8, 9, 11, 15, 20, 30, 31, 32, 33, 34, 41, 57, 68] rfl rfl ?_
    refine Run.ret ?_
    exact Ends.of hE (.inr rfl) rfl rfl (SLe.res0 (AVle.tups (.cons (AVle.lst _ _ _ (lstOf_glV rfl (by simp))) (.cons (AVle.of_eq rfl) .nil))) rfl)
theorem fnTake {l : List Gr} {x : Gr} (h : LOk l) (hx : gOk x = true) (hne : (l.filter fun y => !samePl y x).length ≠ l.length) : FnC (En Try.prog g) 14 [.pv (.lst 5 (l.map grE)), grA x] (.tup [.pv (.lst 5 ((heldP (l.filter fun y => !samePl y x)).map grE)), .pv (.int .i64 0)]) [] := by
  have hE := EnOk g
  have hn := h.n
  have hlm : (((l.map grE).length : Nat) : Int) = l.length := by simp
  have c1 := fnRCheck (g := g) h
  have c2 := fnBounds (g := g) hx
  have cp := fnPlaced (g := g) x
  have hfl : (l.filter fun y => !samePl y x).length ≤ l.length := List.length_filter_le _ _
  have ch := fnHeld (g := g) (l := l.filter fun y => !samePl y x) (by omega) (fun y hy => h.ob y (List.mem_filter.1 hy).1)
  obtain ⟨F, hF⟩ : ∃ F : Nat → List Gr, ∀ j, F j = (l.take j).filter fun y => !samePl y x := ⟨_, fun _ => rfl⟩
  have hFn : F l.length = l.filter fun y => !samePl y x := by rw [hF, List.take_length]
  have hF0 : F 0 = [] := by rw [hF]; rfl
  have hstep : ∀ j y, l[j]? = some y → F (j + 1) = if samePl y x = false then F j ++ [y] else F j := fun j y hy => by
    rw [hF, hF, List.take_add_one, hy, List.filter_append]
    cases hs : samePl y x <;> simp [hs]
  have hFl : ∀ j, (F j).length ≤ j := fun j => by
    rw [hF]
    refine Nat.le_trans (List.length_filter_le _ _) ?_
    rw [List.length_take]; exact Nat.min_le_left _ _
  have hsl : ∀ y w, (Op.equalIn 10000 63 (.agg [Value.int .i64 y.ob, .int .i64 y.rt, .int .i64 y.fr, .int .i64 y.tt].toArray) (.agg [Value.int .i64 x.ob, .int .i64 x.rt, .int .i64 x.fr, .int .i64 x.tt].toArray)).run Try.prog w = .ok (samePl y x) w := fun y w => eq_pl y x w
  rw [← hFn] at ch hne ⊢
  clear hF hFn hx hfl
  generalize hS : (fun y => samePl y x) = S at *
  have hS' : ∀ y, samePl y x = S y := fun y => by rw [← hS]
  simp only [hS'] at hstep hsl
  clear hS hS'
  obtain ⟨xfr, xtt, xob, xrt, xop⟩ := x
  dsimp only at hsl
  dsimp only [grA]
  refine FnC.of Try.func14 rfl rfl rfl rfl ?_
  repeat (first | refine Run.seq ?_ | refine Run.skip ?_ | refine Run.block ?_)
  refine Run.region ?_
  refine O.box 3 rfl (by first | rfl | exact cells_ones (by simp [ones_app, ones_ints, ones, AV.one, PV.one])) rfl rfl ?_
  refine O.assign rfl rfl ?_
  refine O.assign rfl rfl ?_
  refine O.nil ?_
  try refine Run.keep [0, 1, 3, 4, 5, 6, 7, 8, 10, 14, 19, 21, 22, 23, 24, 31, 41] rfl rfl ?_
  repeat (first | refine Run.seq ?_ | refine Run.skip ?_ | refine Run.block ?_)
  refine Run.region ?_
  refine O.move rfl rfl ?_
  refine O.callE c1 rfl (by first | rfl | simp [closed, men3, mens2_app, mens2_ints, mens2, men2, men1, mens1_app, mens1_ints, mens1]) (by first | rfl | simp [d2, ds1_ints, ds1_app, ds1, d1, ds0_app, ds0_ints, ds0, d0]) rfl ?_
  refine O.assign rfl rfl ?_
  refine O.nil ?_
  try refine Run.keep [0, 1, 3, 4, 5, 6, 7, 8, 10, 14, 19, 21, 22, 23, 24, 31, 41] rfl rfl ?_
  repeat (first | refine Run.seq ?_ | refine Run.skip ?_ | refine Run.block ?_)
  refine Run.region ?_
  refine O.move rfl rfl ?_
  first | refine O.cmp rfl rfl rfl (by first | exact decide_eq_true (by omega) | exact decide_eq_false (by omega)) rfl ?_ | refine O.cmp rfl rfl rfl rfl rfl ?_
  refine O.nil ?_
  try refine Run.keep [0, 1, 3, 4, 5, 6, 7, 8, 10, 14, 19, 21, 22, 23, 24, 31, 41] rfl rfl ?_
  repeat (first | refine Run.seq ?_ | refine Run.skip ?_)
  first | refine Run.condT rfl rfl ?_ | refine Run.condF rfl rfl ?_ | refine Run.condT rfl (by assumption) ?_ | refine Run.condF rfl (by assumption) ?_
  repeat (first | refine Run.seq ?_ | refine Run.skip ?_ | refine Run.block ?_)
  refine Run.region ?_
  refine O.load hE T46 rfl rfl rfl rfl ?_
  refine O.callE c2 rfl (by first | rfl | simp [closed, men3, mens2_app, mens2_ints, mens2, men2, men1, mens1_app, mens1_ints, mens1]) (by first | rfl | simp [d2, ds1_ints, ds1_app, ds1, d1, ds0_app, ds0_ints, ds0, d0]) rfl ?_
  refine O.assign rfl rfl ?_
  refine O.nil ?_
  try refine Run.keep [0, 1, 3, 4, 5, 6, 7, 8, 10, 14, 19, 21, 22, 23, 24, 31, 41] rfl rfl ?_
  repeat (first | refine Run.seq ?_ | refine Run.skip ?_ | refine Run.block ?_)
  refine Run.region ?_
  refine O.move rfl rfl ?_
  first | refine O.cmp rfl rfl rfl (by first | exact decide_eq_true (by omega) | exact decide_eq_false (by omega)) rfl ?_ | refine O.cmp rfl rfl rfl rfl rfl ?_
  refine O.nil ?_
  try refine Run.keep [0, 1, 3, 4, 5, 6, 7, 8, 10, 14, 19, 21, 22, 23, 24, 31, 41] rfl rfl ?_
  repeat (first | refine Run.seq ?_ | refine Run.skip ?_)
  first | refine Run.condT rfl rfl ?_ | refine Run.condF rfl rfl ?_ | refine Run.condT rfl (by assumption) ?_ | refine Run.condF rfl (by assumption) ?_
  repeat (first | refine Run.seq ?_ | refine Run.skip ?_ | refine Run.block ?_)
  refine Run.region ?_
  refine O.assign rfl rfl ?_
  refine O.nil ?_
  try refine Run.keep [0, 1, 3, 4, 5, 6, 7, 8, 10, 14, 19, 21, 22, 23, 24, 31, 41] rfl rfl ?_
  refine Run.pre (SLe.nilBox (t := 8) (b := 108) (e := 46) (sz := 5) rfl rfl rfl rfl) ?_
  repeat (first | refine Run.seq ?_ | refine Run.skip ?_ | refine Run.block ?_)
  refine Run.region ?_
  refine O.move rfl rfl ?_
  refine O.lenN hE T42 rfl rfl rfl newest_pv hlm rfl ?_
  refine O.move rfl rfl ?_
  refine O.nil ?_
  try refine Run.keep [0, 1, 3, 4, 5, 6, 7, 8, 10, 14, 19, 21, 22, 23, 24, 31, 41] rfl rfl ?_
  repeat (first | refine Run.seq ?_ | refine Run.skip ?_)
  refine Run.block ?_
  refine Run.loopInv (ι := Nat) (fun j => j ≤ l.length) (fun j => ⟨44, [(0, .pv (.lst 5 (l.map grE))), (3, .ptr 3 0), (8, .gl 108 (F j).length), (21, .pv (.lst 5 (l.map grE))), (22, .pv (.int .i64 l.length)), (23, .pv (.int .i64 (j : Int)))], [(3, .var [.pv (.int .i64 xfr), .pv (.int .i64 xtt), .pv (.int .i64 xob), .pv (.int .i64 xrt), .pv (.bool xop)]), (108, .lst 46 5 ((F j).map grE))]⟩) (fun j => l.length - j) 0 (Nat.zero_le _) ?_ ?_
  ·
    rw [hF0]
    exact SLe.drop (by repeat (first | exact TmIn.nil | refine TmIn.cons rfl ?_)) (by repeat (first | exact BxIn.nil | refine BxIn.cons rfl ?_)) rfl rfl
  rintro j hj ih
  by_cases hlt : j < l.length
  ·
    obtain ⟨y, hy⟩ : ∃ y, l[j]? = some y := ⟨_, List.getElem?_eq_getElem hlt⟩
    have hat : (l.map grE)[(j : Int).toNat]? = some (grE y) := by rw [Int.toNat_natCast, List.getElem?_map, hy]; rfl
    have hst := hstep j y hy
    have cpy := fnPlaced (g := g) y
    have hsy := hsl y
    have hfj := hFl j
    generalize F j = Q at *
    generalize S y = b at *
    obtain ⟨yfr, ytt, yob, yrt, yop⟩ := y
    dsimp only at hsy
    cases b with
    | true =>
      rw [if_neg (by decide)] at hst
      repeat (first | refine Run.seq ?_ | refine Run.skip ?_ | refine Run.block ?_)
      refine Run.region ?_
      first | refine O.cmp rfl rfl rfl (by first | exact decide_eq_true (by omega) | exact decide_eq_false (by omega)) rfl ?_ | refine O.cmp rfl rfl rfl rfl rfl ?_
      refine O.nil ?_
      try refine Run.keep [0, 1, 3, 4, 5, 6, 7, 8, 10, 14, 19, 21, 22, 23, 24, 31, 41] rfl rfl ?_
      repeat (first | refine Run.seq ?_ | refine Run.skip ?_)
      first | refine Run.condT rfl rfl ?_ | refine Run.condF rfl rfl ?_ | refine Run.condT rfl (by assumption) ?_ | refine Run.condF rfl (by assumption) ?_
      repeat (first | refine Run.seq ?_ | refine Run.skip ?_ | refine Run.block ?_)
      refine Run.region ?_
      refine O.index hE T42 rfl T46 rfl rfl newest_pv rfl (by omega) hat rfl rfl rfl ?_
      refine O.load hE T46 rfl rfl rfl rfl ?_
      refine O.alloc hE 10 T46 rfl rfl rfl ?_
      refine O.store hE T46 rfl rfl rfl rfl rfl rfl ?_
      refine O.nil ?_
      try refine Run.keep [0, 1, 3, 4, 5, 6, 7, 8, 10, 14, 19, 21, 22, 23, 24, 31, 41] rfl rfl ?_
      repeat (first | refine Run.seq ?_ | refine Run.skip ?_ | refine Run.block ?_)
      refine Run.draw mixed rfl ?_
      refine D.load hE T46 rfl rfl rfl rfl ?_
      refine D.callE cpy rfl (by first | rfl | simp [closed, men3, mens2_app, mens2_ints, mens2, men2, men1, mens1_app, mens1_ints, mens1]) (by first | rfl | simp [d2, ds1_ints, ds1_app, ds1, d1, ds0_app, ds0_ints, ds0, d0]) rfl ?_
      refine D.load hE T46 rfl rfl rfl rfl ?_
      refine D.callE cp rfl (by first | rfl | simp [closed, men3, mens2_app, mens2_ints, mens2, men2, men1, mens1_app, mens1_ints, mens1]) (by first | rfl | simp [d2, ds1_ints, ds1_app, ds1, d1, ds0_app, ds0_ints, ds0, d0]) rfl ?_
      refine D.neAggG (c := false) rfl rfl rfl rfl (by kernel_rfl) hsy rfl rfl ?_
      refine Dr.nil ?_
      refine ⟨rfl, ?_⟩
      try refine Run.keep [0, 1, 3, 4, 5, 6, 7, 8, 10, 14, 19, 21, 22, 23, 24, 31, 41] rfl rfl ?_
      repeat (first | refine Run.seq ?_ | refine Run.skip ?_)
      first | refine Run.condT rfl rfl ?_ | refine Run.condF rfl rfl ?_ | refine Run.condT rfl (by assumption) ?_ | refine Run.condF rfl (by assumption) ?_
      repeat (first | refine Run.seq ?_ | refine Run.skip ?_ | refine Run.block ?_)
      refine Run.region ?_
      first | refine O.ar rfl rfl rfl (by exact wrap_i64 (by omega) (by omega)) rfl ?_ | refine O.ar rfl rfl rfl rfl rfl ?_
      refine O.move rfl rfl ?_
      refine O.nil ?_
      try refine Run.keep [0, 1, 3, 4, 5, 6, 7, 8, 10, 14, 19, 21, 22, 23, 24, 31, 41] rfl rfl ?_
      refine ih (j + 1) _ ?_ (by omega) (by omega)
      rw [hst]
      exact SLe.drop (by repeat (first | exact TmIn.nil | refine TmIn.cons rfl ?_)) (by repeat (first | exact BxIn.nil | refine BxIn.cons rfl ?_)) rfl rfl
    | false =>
      rw [if_pos rfl] at hst
      repeat (first | refine Run.seq ?_ | refine Run.skip ?_ | refine Run.block ?_)
      refine Run.region ?_
      first | refine O.cmp rfl rfl rfl (by first | exact decide_eq_true (by omega) | exact decide_eq_false (by omega)) rfl ?_ | refine O.cmp rfl rfl rfl rfl rfl ?_
      refine O.nil ?_
      try refine Run.keep [0, 1, 3, 4, 5, 6, 7, 8, 10, 14, 19, 21, 22, 23, 24, 31, 41] rfl rfl ?_
      repeat (first | refine Run.seq ?_ | refine Run.skip ?_)
      first | refine Run.condT rfl rfl ?_ | refine Run.condF rfl rfl ?_ | refine Run.condT rfl (by assumption) ?_ | refine Run.condF rfl (by assumption) ?_
      repeat (first | refine Run.seq ?_ | refine Run.skip ?_ | refine Run.block ?_)
      refine Run.region ?_
      refine O.index hE T42 rfl T46 rfl rfl newest_pv rfl (by omega) hat rfl rfl rfl ?_
      refine O.load hE T46 rfl rfl rfl rfl ?_
      refine O.alloc hE 10 T46 rfl rfl rfl ?_
      refine O.store hE T46 rfl rfl rfl rfl rfl rfl ?_
      refine O.nil ?_
      try refine Run.keep [0, 1, 3, 4, 5, 6, 7, 8, 10, 14, 19, 21, 22, 23, 24, 31, 41] rfl rfl ?_
      repeat (first | refine Run.seq ?_ | refine Run.skip ?_ | refine Run.block ?_)
      refine Run.draw mixed rfl ?_
      refine D.load hE T46 rfl rfl rfl rfl ?_
      refine D.callE cpy rfl (by first | rfl | simp [closed, men3, mens2_app, mens2_ints, mens2, men2, men1, mens1_app, mens1_ints, mens1]) (by first | rfl | simp [d2, ds1_ints, ds1_app, ds1, d1, ds0_app, ds0_ints, ds0, d0]) rfl ?_
      refine D.load hE T46 rfl rfl rfl rfl ?_
      refine D.callE cp rfl (by first | rfl | simp [closed, men3, mens2_app, mens2_ints, mens2, men2, men1, mens1_app, mens1_ints, mens1]) (by first | rfl | simp [d2, ds1_ints, ds1_app, ds1, d1, ds0_app, ds0_ints, ds0, d0]) rfl ?_
      refine D.neAggG (c := true) rfl rfl rfl rfl (by kernel_rfl) hsy rfl rfl ?_
      refine Dr.nil ?_
      refine ⟨rfl, ?_⟩
      try refine Run.keep [0, 1, 3, 4, 5, 6, 7, 8, 10, 14, 19, 21, 22, 23, 24, 31, 41] rfl rfl ?_
      repeat (first | refine Run.seq ?_ | refine Run.skip ?_)
      first | refine Run.condT rfl rfl ?_ | refine Run.condF rfl rfl ?_ | refine Run.condT rfl (by assumption) ?_ | refine Run.condF rfl (by assumption) ?_
      repeat (first | refine Run.seq ?_ | refine Run.skip ?_ | refine Run.block ?_)
      refine Run.region ?_
      refine O.move rfl rfl ?_
      refine O.load hE T46 rfl rfl rfl rfl ?_
      refine O.litV hE T42 rfl T46 rfl rfl rfl rfl rfl rfl rfl ?_
      refine O.appM grE (q := Q) (r := [⟨yfr, ytt, yob, yrt, yop⟩]) hE T42 rfl T46 rfl rfl rfl rfl rfl newest_pv rfl rfl rfl rfl (by simp; omega) (by simp [maxLen]; omega) rfl ?_
      refine O.assign rfl rfl ?_
      refine O.nil ?_
      try refine Run.keep [0, 1, 3, 4, 5, 6, 7, 8, 10, 14, 19, 21, 22, 23, 24, 31, 41] rfl rfl ?_
      repeat (first | refine Run.seq ?_ | refine Run.skip ?_ | refine Run.block ?_)
      refine Run.region ?_
      first | refine O.ar rfl rfl rfl (by exact wrap_i64 (by omega) (by omega)) rfl ?_ | refine O.ar rfl rfl rfl rfl rfl ?_
      refine O.move rfl rfl ?_
      refine O.nil ?_
      try refine Run.keep [0, 1, 3, 4, 5, 6, 7, 8, 10, 14, 19, 21, 22, 23, 24, 31, 41] rfl rfl ?_
      refine ih (j + 1) _ ?_ (by omega) (by omega)
      rw [hst]
      exact SLe.drop (by repeat (first | exact TmIn.nil | refine TmIn.cons rfl ?_)) (by repeat (first | exact BxIn.nil | refine BxIn.cons rfl ?_)) rfl rfl
  obtain rfl : j = l.length := by omega
  have hfj := hFl l.length
  generalize F l.length = Q at *
  have hQm : (((Q.map grE).length : Nat) : Int) = Q.length := by simp
  repeat (first | refine Run.seq ?_ | refine Run.skip ?_ | refine Run.block ?_)
  refine Run.region ?_
  first | refine O.cmp rfl rfl rfl (by first | exact decide_eq_true (by omega) | exact decide_eq_false (by omega)) rfl ?_ | refine O.cmp rfl rfl rfl rfl rfl ?_
  refine O.nil ?_
  try refine Run.keep [0, 1, 3, 4, 5, 6, 7, 8, 10, 14, 19, 21, 22, 23, 24, 31, 41] rfl rfl ?_
  repeat (first | refine Run.seq ?_ | refine Run.skip ?_)
  first | refine Run.condT rfl rfl ?_ | refine Run.condF rfl rfl ?_ | refine Run.condT rfl (by assumption) ?_ | refine Run.condF rfl (by assumption) ?_
  refine Run.exit ?_
  repeat (first | refine thenR_exit ?_ | refine roundR_exit ?_ | refine blockR_exit ?_ | refine blockR_pass rfl ?_)
  refine Run.pre (s1 := ⟨44, [(0, .pv (.lst 5 (l.map grE))), (8, .pv (.lst 5 (Q.map grE)))], []⟩) ?_ ?_
  ·
    refine SLe.by rfl ?_ ?_ rfl rfl <;> repeat (first | exact TmLe.nil | exact BxsLe.nil | refine TmLe.cons (AVle.of_eq rfl) ?_ | refine TmLe.cons (AVle.lst _ _ _ (lstOf_glV rfl (by simp))) ?_ | refine BxsLe.cons rfl (.refl _) ?_)
  repeat (first | refine Run.seq ?_ | refine Run.skip ?_ | refine Run.block ?_)
  refine Run.region ?_
  refine O.move rfl rfl ?_
  refine O.lenN hE T42 rfl rfl rfl newest_pv hQm rfl ?_
  refine O.move rfl rfl ?_
  refine O.lenN hE T42 rfl rfl rfl newest_pv hlm rfl ?_
  refine O.cmp (c' := false) rfl rfl rfl (decide_eq_false (by omega)) rfl ?_
  refine O.nil ?_
  try refine Run.keep [0, 1, 3, 4, 5, 6, 7, 8, 10, 14, 19, 21, 22, 23, 24, 31, 41] rfl rfl ?_
  repeat (first | refine Run.seq ?_ | refine Run.skip ?_)
  first | refine Run.condT rfl rfl ?_ | refine Run.condF rfl rfl ?_ | refine Run.condT rfl (by assumption) ?_ | refine Run.condF rfl (by assumption) ?_
  repeat (first | refine Run.seq ?_ | refine Run.skip ?_ | refine Run.block ?_)
  refine Run.region ?_
  refine O.move rfl rfl ?_
  refine O.callE ch rfl (by first | rfl | simp [closed, men3, mens2_app, mens2_ints, mens2, men2, men1, mens1_app, mens1_ints, mens1]) (by first | rfl | simp [d2, ds1_ints, ds1_app, ds1, d1, ds0_app, ds0_ints, ds0, d0]) rfl ?_
  refine O.assign rfl rfl ?_
  refine O.assign rfl rfl ?_
  refine O.nil ?_
  try refine Run.keep [0, 1, 3, 4, 5, 6, 7, 8, 10, 14, 19, 21, 22, 23, 24, 31, 41] rfl rfl ?_
  (repeat (first | refine Run.seq ?_ | refine Run.skip ?_)); (try refine Run.ret ?_); first | exact Ends.flat hE (.inr rfl) rfl rfl (AVle.of_eq rfl) rfl | exact Ends.flat hE (.inl rfl) rfl rfl (AVle.of_eq rfl) rfl
end Go.Proofs.Ytokjeodlcilfpaa.Vm
