/- Covers: which slots are open, the walk that makes a cover. Conditions: the table of steps has 64 words. -/
import Derived.Test.YtokjeodlcilfpaaDoorSlotC
namespace Go.Proofs.YtokjeodlcilfpaaDoor.Vm
open Go Go.RowKit
set_option linter.unusedVariables false
set_option linter.unusedSimpArgs false
attribute [local irreducible] Ops Dr Run digP
variable {g : Nat → Option (List PV)}
theorem bool_at {os : List Bool} {j : Nat} (h : j < os.length) : (os.map PV.bool)[j]? = some (.bool (os.getD j false)) := by
  simp [List.getElem?_map, List.getElem?_eq_getElem h, List.getD_eq_getElem?_getD]
theorem fnAny (os : List Bool) (hl : os.length ≤ 1000) : FnC (En Tryd.prog g) 33 [.pv (.lst 1 (os.map PV.bool))] (.pv (.bool (os.any id))) [] := by
  have hE := EnOk g
  have hlen : (os.map PV.bool).length = os.length := by simp
  obtain ⟨r, hr⟩ : ∃ r, os.any id = r := ⟨_, rfl⟩
  rw [hr]
  refine FnC.of Tryd.func33 rfl rfl rfl rfl ?_
  repeat (first | refine Run.seq ?_ | refine Run.skip ?_ | refine Run.block ?_)
  refine Run.region ?_
  refine O.assign rfl rfl ?_
  refine O.nil ?_
  try refine Run.keep [0, 2, 4, 5, 6, 7, 8, 11] rfl rfl ?_
  repeat (first | refine Run.seq ?_ | refine Run.skip ?_ | refine Run.block ?_)
  refine Run.region ?_
  refine O.move rfl rfl ?_
  first | refine O.lenN hE T25 rfl rfl rfl (by first | exact newest_pv | exact newest_gl rfl rfl | trivial) lenC rfl ?_ | refine O.lenLst hE T25 rfl rfl rfl (by first | exact newest_pv | exact newest_gl rfl rfl | trivial) rfl ?_
  refine O.move rfl rfl ?_
  refine O.nil ?_
  try refine Run.keep [0, 2, 4, 5, 6, 7, 8, 11] rfl rfl ?_
  repeat (first | refine Run.seq ?_ | refine Run.skip ?_)
  refine Run.block ?_
  refine Run.loopInv (ι := Nat) (fun j => j ≤ os.length ∧ (os.drop j).any id = r) (fun j => ⟨13, [(5, .pv (.lst 1 (os.map PV.bool))), (6, .pv (.int .i64 os.length)), (7, .pv (.int .i64 j))], []⟩) (fun j => os.length - j) 0 ⟨by omega, by simpa using hr⟩ ?_ ?_
  ·
    refine SLe.eqv (by repeat (first | exact TmIn.nil | refine TmIn.cons rfl ?_)) (by repeat (first | exact BxIn.nil | refine BxIn.cons rfl ?_)) rfl
  rintro j ⟨hj, hjr⟩ ih
  by_cases hlt : j < os.length
  ·
    have hat : (os.map PV.bool)[(j : Int).toNat]? = some (.bool (os.getD j false)) := by rw [Int.toNat_natCast]; exact bool_at hlt
    have hdr : (os.drop j).any id = (os.getD j false || (os.drop (j + 1)).any id) := by
      rw [List.drop_eq_getElem_cons hlt, List.any_cons, List.getD_eq_getElem?_getD, List.getElem?_eq_getElem hlt]; rfl
    rw [hdr] at hjr
    cases hb : os.getD j false with
    | true =>
      rw [hb] at hat hjr
      rw [Bool.true_or] at hjr
      subst hjr
      repeat (first | refine Run.seq ?_ | refine Run.skip ?_ | refine Run.block ?_)
      refine Run.region ?_
      first | refine O.cmp rfl rfl rfl (by first | exact decide_eq_true (by omega) | exact decide_eq_false (by omega)) rfl ?_ | refine O.cmp rfl rfl rfl rfl rfl ?_
      refine O.nil ?_
      try refine Run.keep [0, 2, 4, 5, 6, 7, 8, 11] rfl rfl ?_
      repeat (first | refine Run.seq ?_ | refine Run.skip ?_)
      first | refine Run.condT rfl rfl ?_ | refine Run.condF rfl rfl ?_ | refine Run.condT rfl (by assumption) ?_ | refine Run.condF rfl (by assumption) ?_
      repeat (first | refine Run.seq ?_ | refine Run.skip ?_ | refine Run.block ?_)
      refine Run.region ?_
      refine O.index hE T25 rfl T4 rfl rfl newest_pv rfl (by omega) hat rfl rfl rfl ?_
      first | refine O.loadS hE T4 rfl rfl rfl (by rfl) rfl ?_ | refine O.loadE hE T4 rfl rfl (by rfl) rfl ?_ | refine O.load hE T4 rfl rfl rfl rfl ?_
      refine O.assign rfl rfl ?_
      refine O.nil ?_
      try refine Run.keep [0, 2, 4, 5, 6, 7, 8, 11] rfl rfl ?_
      repeat (first | refine Run.seq ?_ | refine Run.skip ?_ | refine Run.block ?_)
      refine Run.region ?_
      refine O.move rfl rfl ?_
      refine O.nil ?_
      try refine Run.keep [0, 2, 4, 5, 6, 7, 8, 11] rfl rfl ?_
      repeat (first | refine Run.seq ?_ | refine Run.skip ?_)
      first | refine Run.condT rfl rfl ?_ | refine Run.condF rfl rfl ?_ | refine Run.condT rfl (by assumption) ?_ | refine Run.condF rfl (by assumption) ?_
      repeat (first | refine Run.seq ?_ | refine Run.skip ?_ | refine Run.block ?_)
      refine Run.region ?_
      refine O.assign rfl rfl ?_
      refine O.nil ?_
      try refine Run.keep [0, 2, 4, 5, 6, 7, 8, 11] rfl rfl ?_
      refine Run.ret ?_
      repeat (first | refine thenR_ret ?_ | refine roundR_ret ?_ | refine blockR_ret ?_)
      exact Ends.flat hE (.inr rfl) rfl rfl (AVle.of_eq rfl) rfl
    | false =>
      rw [hb] at hat hjr
      rw [Bool.false_or] at hjr
      repeat (first | refine Run.seq ?_ | refine Run.skip ?_ | refine Run.block ?_)
      refine Run.region ?_
      first | refine O.cmp rfl rfl rfl (by first | exact decide_eq_true (by omega) | exact decide_eq_false (by omega)) rfl ?_ | refine O.cmp rfl rfl rfl rfl rfl ?_
      refine O.nil ?_
      try refine Run.keep [0, 2, 4, 5, 6, 7, 8, 11] rfl rfl ?_
      repeat (first | refine Run.seq ?_ | refine Run.skip ?_)
      first | refine Run.condT rfl rfl ?_ | refine Run.condF rfl rfl ?_ | refine Run.condT rfl (by assumption) ?_ | refine Run.condF rfl (by assumption) ?_
      repeat (first | refine Run.seq ?_ | refine Run.skip ?_ | refine Run.block ?_)
      refine Run.region ?_
      refine O.index hE T25 rfl T4 rfl rfl newest_pv rfl (by omega) hat rfl rfl rfl ?_
      first | refine O.loadS hE T4 rfl rfl rfl (by rfl) rfl ?_ | refine O.loadE hE T4 rfl rfl (by rfl) rfl ?_ | refine O.load hE T4 rfl rfl rfl rfl ?_
      refine O.assign rfl rfl ?_
      refine O.nil ?_
      try refine Run.keep [0, 2, 4, 5, 6, 7, 8, 11] rfl rfl ?_
      repeat (first | refine Run.seq ?_ | refine Run.skip ?_ | refine Run.block ?_)
      refine Run.region ?_
      refine O.move rfl rfl ?_
      refine O.nil ?_
      try refine Run.keep [0, 2, 4, 5, 6, 7, 8, 11] rfl rfl ?_
      repeat (first | refine Run.seq ?_ | refine Run.skip ?_)
      first | refine Run.condT rfl rfl ?_ | refine Run.condF rfl rfl ?_ | refine Run.condT rfl (by assumption) ?_ | refine Run.condF rfl (by assumption) ?_
      repeat (first | refine Run.seq ?_ | refine Run.skip ?_ | refine Run.block ?_)
      refine Run.region ?_
      first | refine O.ar rfl rfl rfl (by exact wrap_i64 (by omega) (by omega)) rfl ?_ | refine O.ar rfl rfl rfl rfl rfl ?_
      refine O.move rfl rfl ?_
      refine O.nil ?_
      try refine Run.keep [0, 2, 4, 5, 6, 7, 8, 11] rfl rfl ?_
      exact ih (j + 1) _ (by refine SLe.eqv (by repeat (first | exact TmIn.nil | refine TmIn.cons rfl ?_)) (by repeat (first | exact BxIn.nil | refine BxIn.cons rfl ?_)) rfl) ⟨by omega, hjr⟩ (by omega)
  rw [List.drop_eq_nil_of_le (by omega)] at hjr
  have hjr : false = r := hjr
  subst hjr
  repeat (first | refine Run.seq ?_ | refine Run.skip ?_ | refine Run.block ?_)
  refine Run.region ?_
  first | refine O.cmp rfl rfl rfl (by first | exact decide_eq_true (by omega) | exact decide_eq_false (by omega)) rfl ?_ | refine O.cmp rfl rfl rfl rfl rfl ?_
  refine O.nil ?_
  try refine Run.keep [0, 2, 4, 5, 6, 7, 8, 11] rfl rfl ?_
  repeat (first | refine Run.seq ?_ | refine Run.skip ?_)
  first | refine Run.condT rfl rfl ?_ | refine Run.condF rfl rfl ?_ | refine Run.condT rfl (by assumption) ?_ | refine Run.condF rfl (by assumption) ?_
  refine Run.exit ?_
  repeat (first | refine thenR_exit ?_ | refine roundR_exit ?_ | refine blockR_exit ?_ | refine blockR_pass rfl ?_)
  repeat (first | refine Run.seq ?_ | refine Run.skip ?_ | refine Run.block ?_)
  refine Run.region ?_
  refine O.assign rfl rfl ?_
  refine O.nil ?_
  try refine Run.keep [0, 2, 4, 5, 6, 7, 8, 11] rfl rfl ?_
  (repeat (first | refine Run.seq ?_ | refine Run.skip ?_)); (try refine Run.ret ?_); first | exact Ends.flat hE (.inr rfl) rfl rfl (AVle.of_eq rfl) rfl | exact Ends.flat hE (.inl rfl) rfl rfl (AVle.of_eq rfl) rfl
/-- Whether the j-th bit of a number is one. -/
def bitO (w : Int) (j : Nat) : Bool := decide (IntKind.i64.wrap (BitVec.ofInt IntKind.i64.bits (w.fdiv (2 ^ (min (j : Int).toNat IntKind.i64.bits))) &&& BitVec.ofInt IntKind.i64.bits 1).toNat = 1)
theorem fnOpens {ss : List Sl} (w : Int) (hl : ss.length ≤ 1000) : FnC (En Tryd.prog g) 13 [.pv (.lst 3 (ss.map slE)), .pv (.int .i64 w)] (.pv (.lst 1 (((List.range ss.length).map (bitO w)).map PV.bool))) [] := by
  have hE := EnOk g
  have hlen : (ss.map slE).length = ss.length := by simp
  obtain ⟨F, hF⟩ : ∃ F : Nat → Bool, ∀ j, F j = bitO w j := ⟨bitO w, fun _ => rfl⟩
  have hFe : bitO w = F := funext fun j => (hF j).symm
  rw [hFe]
  refine FnC.of Tryd.func13 rfl rfl rfl rfl ?_
  repeat (first | refine Run.seq ?_ | refine Run.skip ?_ | refine Run.block ?_)
  refine Run.region ?_
  refine O.assign rfl rfl ?_
  refine O.nil ?_
  try refine Run.keep [0, 1, 4, 5, 6, 8, 9, 10] rfl rfl ?_
  repeat (first | refine Run.seq ?_ | refine Run.skip ?_ | refine Run.block ?_)
  refine Run.region ?_
  refine O.assign rfl rfl ?_
  refine O.nil ?_
  try refine Run.keep [0, 1, 4, 5, 6, 8, 9, 10] rfl rfl ?_
  refine Run.pre (SLe.nilBox (t := 5) (b := 57) (e := 4) (sz := 1) rfl rfl rfl rfl) ?_
  repeat (first | refine Run.seq ?_ | refine Run.skip ?_ | refine Run.block ?_)
  refine Run.region ?_
  refine O.move rfl rfl ?_
  first | refine O.lenN hE T23 rfl rfl rfl (by first | exact newest_pv | exact newest_gl rfl rfl | trivial) lenC rfl ?_ | refine O.lenLst hE T23 rfl rfl rfl (by first | exact newest_pv | exact newest_gl rfl rfl | trivial) rfl ?_
  refine O.move rfl rfl ?_
  refine O.nil ?_
  try refine Run.keep [0, 1, 4, 5, 6, 8, 9, 10] rfl rfl ?_
  repeat (first | refine Run.seq ?_ | refine Run.skip ?_)
  refine Run.block ?_
  refine Run.loopInv (ι := Nat) (fun j => j ≤ ss.length) (fun j => ⟨22, [(1, .pv (.int .i64 w)), (5, .gl 57 ((List.range j).map F).length), (8, .pv (.int .i64 ss.length)), (9, .pv (.int .i64 j))], [(57, .lst 4 1 (((List.range j).map F).map PV.bool))]⟩) (fun j => ss.length - j) 0 (by omega) ?_ ?_
  ·
    refine SLe.eqv (by repeat (first | exact TmIn.nil | refine TmIn.cons rfl ?_)) (by repeat (first | exact BxIn.nil | refine BxIn.cons rfl ?_)) rfl
  rintro j hj ih
  by_cases hlt : j < ss.length
  ·
    have htk : (List.range (j + 1)).map F = (List.range j).map F ++ [F j] := by rw [List.range_succ, List.map_append]; rfl
    have hFl : ((List.range j).map F).length = j := by simp
    have hFj := hF j
    generalize F j = fj at *
    subst hFj
    repeat (first | refine Run.seq ?_ | refine Run.skip ?_ | refine Run.block ?_)
    refine Run.region ?_
    first | refine O.cmp rfl rfl rfl (by first | exact decide_eq_true (by omega) | exact decide_eq_false (by omega)) rfl ?_ | refine O.cmp rfl rfl rfl rfl rfl ?_
    refine O.nil ?_
    try refine Run.keep [0, 1, 4, 5, 6, 8, 9, 10] rfl rfl ?_
    repeat (first | refine Run.seq ?_ | refine Run.skip ?_)
    first | refine Run.condT rfl rfl ?_ | refine Run.condF rfl rfl ?_ | refine Run.condT rfl (by assumption) ?_ | refine Run.condF rfl (by assumption) ?_
    repeat (first | refine Run.seq ?_ | refine Run.skip ?_ | refine Run.block ?_)
    refine Run.region ?_
    refine O.move rfl rfl ?_
    refine O.assign rfl rfl ?_
    refine O.nil ?_
    try refine Run.keep [0, 1, 4, 5, 6, 8, 9, 10] rfl rfl ?_
    repeat (first | refine Run.seq ?_ | refine Run.skip ?_ | refine Run.block ?_)
    refine Run.region ?_
    refine O.move rfl rfl ?_
    refine O.move rfl rfl ?_
    refine O.move rfl rfl ?_
    refine O.shr rfl rfl (by first | omega | (exact wrap_nn rfl _)) rfl ?_
    refine O.bit rfl rfl rfl rfl ?_
    refine O.cmp (c' := bitO w j) rfl rfl rfl rfl rfl ?_
    refine O.litV hE T25 rfl T4 rfl rfl rfl rfl rfl rfl rfl ?_
    refine O.appM PV.bool (r := [bitO w j]) hE T25 rfl T4 rfl rfl rfl rfl rfl newest_pv rfl rfl rfl rfl (by simp; omega) (by simp [maxLen]; omega) rfl ?_
    refine O.assign rfl rfl ?_
    refine O.nil ?_
    try refine Run.keep [0, 1, 4, 5, 6, 8, 9, 10] rfl rfl ?_
    repeat (first | refine Run.seq ?_ | refine Run.skip ?_ | refine Run.block ?_)
    refine Run.region ?_
    first | refine O.ar rfl rfl rfl (by exact wrap_i64 (by omega) (by omega)) rfl ?_ | refine O.ar rfl rfl rfl rfl rfl ?_
    refine O.move rfl rfl ?_
    refine O.nil ?_
    try refine Run.keep [0, 1, 4, 5, 6, 8, 9, 10] rfl rfl ?_
    refine ih (j + 1) _ ?_ (by omega) (by omega)
    rw [htk]
    exact SLe.drop (by repeat (first | exact TmIn.nil | refine TmIn.cons rfl ?_)) (by repeat (first | exact BxIn.nil | refine BxIn.cons rfl ?_)) rfl rfl
  obtain rfl : j = ss.length := by omega
  repeat (first | refine Run.seq ?_ | refine Run.skip ?_ | refine Run.block ?_)
  refine Run.region ?_
  first | refine O.cmp rfl rfl rfl (by first | exact decide_eq_true (by omega) | exact decide_eq_false (by omega)) rfl ?_ | refine O.cmp rfl rfl rfl rfl rfl ?_
  refine O.nil ?_
  try refine Run.keep [0, 1, 4, 5, 6, 8, 9, 10] rfl rfl ?_
  repeat (first | refine Run.seq ?_ | refine Run.skip ?_)
  first | refine Run.condT rfl rfl ?_ | refine Run.condF rfl rfl ?_ | refine Run.condT rfl (by assumption) ?_ | refine Run.condF rfl (by assumption) ?_
  refine Run.exit ?_
  repeat (first | refine thenR_exit ?_ | refine roundR_exit ?_ | refine blockR_exit ?_ | refine blockR_pass rfl ?_)
  repeat (first | refine Run.seq ?_ | refine Run.skip ?_ | refine Run.block ?_)
  refine Run.region ?_
  refine O.move rfl rfl ?_
  refine O.assign rfl rfl ?_
  refine O.nil ?_
  try refine Run.keep [0, 1, 4, 5, 6, 8, 9, 10] rfl rfl ?_
  refine Run.ret ?_
  exact Ends.of hE (.inr rfl) rfl rfl (SLe.res0 (AVle.lst _ _ _ (lstOf_gl rfl (by simp))) rfl)
end Go.Proofs.YtokjeodlcilfpaaDoor.Vm
