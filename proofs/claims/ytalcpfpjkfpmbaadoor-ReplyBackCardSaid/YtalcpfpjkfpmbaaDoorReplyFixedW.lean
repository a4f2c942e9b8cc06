/- ReplyFixed: its walk. Conditions: none beyond the tables of utf8. -/
import Derived.Test.YtalcpfpjkfpmbaaDoorWireC
import Derived.Test.YtalcpfpjkfpmbaaDoorCodeO
import Derived.Test.YtalcpfpjkfpmbaaDoorCodeJoinsW
namespace Go.Proofs.YtalcpfpjkfpmbaaDoor.Vm
open Go Go.RowKit Go.Lib
set_option linter.unusedVariables false
set_option linter.unusedSimpArgs false
attribute [local irreducible] Ops Dr Run eightU esc turnU oneP encP
abbrev rpl0 : AV := .agg [.pv (.int .i64 0), .pv (.int .i64 0), .pv .nil]
theorem told_short {b : List Int} (h : b.length < 3) : FnC (En Tryd.prog gT) 12 [.pv (byv b)] (.tup [rpl0, .pv (.int .i64 4)]) [] := by
  have hE := EnOk gT
  have hbm : (((b.map (PV.int .u8)).length : Nat) : Int) = b.length := by simp
  refine FnC.of Tryd.func12 rfl rfl rfl rfl ?_
  repeat (first | refine Run.seq ?_ | refine Run.skip ?_ | refine Run.block ?_)
  refine Run.region ?_
  refine O.alloc hE 2 T36 rfl rfl rfl ?_
  refine O.assign rfl rfl ?_
  refine O.nil ?_
  try refine Run.keep [0, 2, 3, 4, 5, 6, 7, 8, 9, 12, 38, 42, 43, 44, 47, 68, 79, 94] rfl rfl ?_
  repeat (first | refine Run.seq ?_ | refine Run.skip ?_ | refine Run.block ?_)
  refine Run.region ?_
  refine O.move rfl rfl ?_
  refine O.lenN hE T27 rfl rfl rfl newest_pv hbm rfl ?_
  first | refine O.cmp rfl rfl rfl (by first | exact decide_eq_true (by omega) | exact decide_eq_false (by omega)) rfl ?_ | refine O.cmp rfl rfl rfl rfl rfl ?_
  refine O.nil ?_
  try refine Run.keep [0, 2, 3, 4, 5, 6, 7, 8, 9, 12, 38, 42, 43, 44, 47, 68, 79, 94] rfl rfl ?_
  repeat (first | refine Run.seq ?_ | refine Run.skip ?_)
  first | refine Run.condT rfl rfl ?_ | refine Run.condF rfl rfl ?_ | refine Run.condT rfl (by assumption) ?_ | refine Run.condF rfl (by assumption) ?_
  repeat (first | refine Run.seq ?_ | refine Run.skip ?_ | refine Run.block ?_)
  refine Run.region ?_
  refine O.build hE T36 L36 rfl rfl rfl ?_
  refine O.store hE T36 rfl rfl rfl rfl rfl rfl ?_
  refine O.assign rfl rfl ?_
  refine O.nil ?_
  try refine Run.keep [0, 2, 3, 4, 5, 6, 7, 8, 9, 12, 38, 42, 43, 44, 47, 68, 79, 94] rfl rfl ?_
  (repeat (first | refine Run.seq ?_ | refine Run.skip ?_)); (try refine Run.ret ?_); first | exact Ends.flat hE (.inr rfl) rfl rfl (AVle.of_eq rfl) rfl | exact Ends.flat hE (.inl rfl) rfl rfl (AVle.of_eq rfl) rfl
theorem told_range {e c n : Int} {R : List Int} (h8 : ∀ z ∈ e :: c :: n :: R, 0 ≤ z ∧ z < 256) (hl : ((e :: c :: n :: R).length : Int) ≤ 9223372036854775807) (h : 12 < e ∨ 64 < c ∨ 64 < n) : FnC (En Tryd.prog gT) 12 [.pv (byv (e :: c :: n :: R))] (.tup [rpl0, .pv (.int .i64 6)]) [] := by
  have hE := EnOk gT
  have b0 := h8 e (by simp)
  have b1 := h8 c (by simp)
  have b2 := h8 n (by simp)
  have hbm : ((((e :: c :: n :: R).map (PV.int .u8)).length : Nat) : Int) = 3 + R.length := by simp; omega
  refine FnC.of Tryd.func12 rfl rfl rfl rfl ?_
  repeat (first | refine Run.seq ?_ | refine Run.skip ?_ | refine Run.block ?_)
  refine Run.region ?_
  refine O.alloc hE 2 T36 rfl rfl rfl ?_
  refine O.assign rfl rfl ?_
  refine O.nil ?_
  try refine Run.keep [0, 2, 3, 4, 5, 6, 7, 8, 9, 12, 38, 42, 43, 44, 47, 68, 79, 94] rfl rfl ?_
  repeat (first | refine Run.seq ?_ | refine Run.skip ?_ | refine Run.block ?_)
  refine Run.region ?_
  refine O.move rfl rfl ?_
  refine O.lenN hE T27 rfl rfl rfl newest_pv hbm rfl ?_
  first | refine O.cmp rfl rfl rfl (by first | exact decide_eq_true (by omega) | exact decide_eq_false (by omega)) rfl ?_ | refine O.cmp rfl rfl rfl rfl rfl ?_
  refine O.nil ?_
  try refine Run.keep [0, 2, 3, 4, 5, 6, 7, 8, 9, 12, 38, 42, 43, 44, 47, 68, 79, 94] rfl rfl ?_
  repeat (first | refine Run.seq ?_ | refine Run.skip ?_)
  first | refine Run.condT rfl rfl ?_ | refine Run.condF rfl rfl ?_ | refine Run.condT rfl (by assumption) ?_ | refine Run.condF rfl (by assumption) ?_
  repeat (first | refine Run.seq ?_ | refine Run.skip ?_ | refine Run.block ?_)
  refine Run.draw mixed rfl ?_
  refine D.move rfl rfl ?_
  refine D.index (el := .int .u8 e) hE T27 rfl T5 rfl rfl newest_pv rfl (by omega) rfl rfl rfl rfl ?_
  first | refine D.loadS hE T5 rfl rfl rfl (by rfl) rfl ?_ | refine D.loadE hE T5 rfl rfl (by rfl) rfl ?_ | refine D.load hE T5 rfl rfl rfl rfl ?_
  refine D.convQ (q := e) hE T5 T33 rfl rfl (wrap_i64 (by omega) (by omega)) rfl ?_
  refine D.move rfl rfl ?_
  refine D.index (el := .int .u8 c) hE T27 rfl T5 rfl rfl newest_pv rfl (by omega) rfl rfl rfl rfl ?_
  first | refine D.loadS hE T5 rfl rfl rfl (by rfl) rfl ?_ | refine D.loadE hE T5 rfl rfl (by rfl) rfl ?_ | refine D.load hE T5 rfl rfl rfl rfl ?_
  refine D.convQ (q := c) hE T5 T3 rfl rfl (wrap_i64 (by omega) (by omega)) rfl ?_
  refine D.build hE T36 L36 rfl rfl rfl ?_
  refine D.alloc hE 4 T36 rfl rfl rfl ?_
  refine D.store hE T36 rfl rfl rfl rfl rfl rfl ?_
  refine Dr.nil ?_
  refine ⟨rfl, ?_⟩
  try refine Run.keep [0, 2, 3, 4, 5, 6, 7, 8, 9, 12, 38, 42, 43, 44, 47, 68, 79, 94] rfl rfl ?_
  repeat (first | refine Run.seq ?_ | refine Run.skip ?_ | refine Run.block ?_)
  refine Run.region ?_
  refine O.move rfl rfl ?_
  refine O.index (el := .int .u8 n) hE T27 rfl T5 rfl rfl newest_pv rfl (by omega) rfl rfl rfl rfl ?_
  first | refine O.loadS hE T5 rfl rfl rfl (by rfl) rfl ?_ | refine O.loadE hE T5 rfl rfl (by rfl) rfl ?_ | refine O.load hE T5 rfl rfl rfl rfl ?_
  refine O.convQ (q := n) hE T5 T3 rfl rfl (wrap_i64 (by omega) (by omega)) rfl ?_
  refine O.assign rfl rfl ?_
  refine O.nil ?_
  try refine Run.keep [0, 2, 3, 4, 5, 6, 7, 8, 9, 12, 38, 42, 43, 44, 47, 68, 79, 94] rfl rfl ?_
  by_cases h0 : 12 < e
  ·
    repeat (first | refine Run.seq ?_ | refine Run.skip ?_ | refine Run.block ?_)
    refine Run.region ?_
    refine O.field hE L36 rfl rfl rfl rfl ?_
    first | refine O.loadS hE T33 rfl rfl rfl (by rfl) rfl ?_ | refine O.loadE hE T33 rfl rfl (by rfl) rfl ?_ | refine O.load hE T33 rfl rfl rfl rfl ?_
    first | refine O.cmp rfl rfl rfl (by first | exact decide_eq_true (by omega) | exact decide_eq_false (by omega)) rfl ?_ | refine O.cmp rfl rfl rfl rfl rfl ?_
    refine O.move rfl rfl ?_
    first | (refine O.yes rfl rfl (by first | rfl | assumption) ?_; refine O.field hE L36 rfl rfl rfl rfl ?_) | refine O.no rfl rfl rfl rfl ?_
    first | (refine O.yes rfl rfl (by first | rfl | assumption) ?_; first | refine O.loadS hE T3 rfl rfl rfl (by rfl) rfl ?_ | refine O.loadE hE T3 rfl rfl (by rfl) rfl ?_ | refine O.load hE T3 rfl rfl rfl rfl ?_) | refine O.no rfl rfl rfl rfl ?_
    first | (refine O.yes rfl rfl (by first | rfl | assumption) ?_; first | refine O.cmp rfl rfl rfl (by first | exact decide_eq_true (by omega) | exact decide_eq_false (by omega)) rfl ?_ | refine O.cmp rfl rfl rfl rfl rfl ?_) | refine O.no rfl rfl rfl rfl ?_
    refine O.pick rfl rfl rfl rfl rfl ?_
    refine O.move rfl rfl ?_
    first | (refine O.yes rfl rfl (by first | rfl | assumption) ?_; refine O.move rfl rfl ?_) | refine O.no rfl rfl rfl rfl ?_
    first | (refine O.yes rfl rfl (by first | rfl | assumption) ?_; first | refine O.cmp rfl rfl rfl (by first | exact decide_eq_true (by omega) | exact decide_eq_false (by omega)) rfl ?_ | refine O.cmp rfl rfl rfl rfl rfl ?_) | refine O.no rfl rfl rfl rfl ?_
    refine O.pick rfl rfl rfl rfl rfl ?_
    refine O.nil ?_
    try refine Run.keep [0, 2, 3, 4, 5, 6, 7, 8, 9, 12, 38, 42, 43, 44, 47, 68, 79, 94] rfl rfl ?_
    repeat (first | refine Run.seq ?_ | refine Run.skip ?_)
    first | refine Run.condT rfl rfl ?_ | refine Run.condF rfl rfl ?_ | refine Run.condT rfl (by assumption) ?_ | refine Run.condF rfl (by assumption) ?_
    repeat (first | refine Run.seq ?_ | refine Run.skip ?_ | refine Run.block ?_)
    refine Run.region ?_
    refine O.build hE T36 L36 rfl rfl rfl ?_
    refine O.store hE T36 rfl rfl rfl rfl rfl rfl ?_
    refine O.assign rfl rfl ?_
    refine O.nil ?_
    try refine Run.keep [0, 2, 3, 4, 5, 6, 7, 8, 9, 12, 38, 42, 43, 44, 47, 68, 79, 94] rfl rfl ?_
    (repeat (first | refine Run.seq ?_ | refine Run.skip ?_)); (try refine Run.ret ?_); first | exact Ends.flat hE (.inr rfl) rfl rfl (AVle.of_eq rfl) rfl | exact Ends.flat hE (.inl rfl) rfl rfl (AVle.of_eq rfl) rfl
  by_cases h1 : 64 < c
  ·
    repeat (first | refine Run.seq ?_ | refine Run.skip ?_ | refine Run.block ?_)
    refine Run.region ?_
    refine O.field hE L36 rfl rfl rfl rfl ?_
    first | refine O.loadS hE T33 rfl rfl rfl (by rfl) rfl ?_ | refine O.loadE hE T33 rfl rfl (by rfl) rfl ?_ | refine O.load hE T33 rfl rfl rfl rfl ?_
    first | refine O.cmp rfl rfl rfl (by first | exact decide_eq_true (by omega) | exact decide_eq_false (by omega)) rfl ?_ | refine O.cmp rfl rfl rfl rfl rfl ?_
    refine O.move rfl rfl ?_
    first | (refine O.yes rfl rfl (by first | rfl | assumption) ?_; refine O.field hE L36 rfl rfl rfl rfl ?_) | refine O.no rfl rfl rfl rfl ?_
    first | (refine O.yes rfl rfl (by first | rfl | assumption) ?_; first | refine O.loadS hE T3 rfl rfl rfl (by rfl) rfl ?_ | refine O.loadE hE T3 rfl rfl (by rfl) rfl ?_ | refine O.load hE T3 rfl rfl rfl rfl ?_) | refine O.no rfl rfl rfl rfl ?_
    first | (refine O.yes rfl rfl (by first | rfl | assumption) ?_; first | refine O.cmp rfl rfl rfl (by first | exact decide_eq_true (by omega) | exact decide_eq_false (by omega)) rfl ?_ | refine O.cmp rfl rfl rfl rfl rfl ?_) | refine O.no rfl rfl rfl rfl ?_
    refine O.pick rfl rfl rfl rfl rfl ?_
    refine O.move rfl rfl ?_
    first | (refine O.yes rfl rfl (by first | rfl | assumption) ?_; refine O.move rfl rfl ?_) | refine O.no rfl rfl rfl rfl ?_
    first | (refine O.yes rfl rfl (by first | rfl | assumption) ?_; first | refine O.cmp rfl rfl rfl (by first | exact decide_eq_true (by omega) | exact decide_eq_false (by omega)) rfl ?_ | refine O.cmp rfl rfl rfl rfl rfl ?_) | refine O.no rfl rfl rfl rfl ?_
    refine O.pick rfl rfl rfl rfl rfl ?_
    refine O.nil ?_
    try refine Run.keep [0, 2, 3, 4, 5, 6, 7, 8, 9, 12, 38, 42, 43, 44, 47, 68, 79, 94] rfl rfl ?_
    repeat (first | refine Run.seq ?_ | refine Run.skip ?_)
    first | refine Run.condT rfl rfl ?_ | refine Run.condF rfl rfl ?_ | refine Run.condT rfl (by assumption) ?_ | refine Run.condF rfl (by assumption) ?_
    repeat (first | refine Run.seq ?_ | refine Run.skip ?_ | refine Run.block ?_)
    refine Run.region ?_
    refine O.build hE T36 L36 rfl rfl rfl ?_
    refine O.store hE T36 rfl rfl rfl rfl rfl rfl ?_
    refine O.assign rfl rfl ?_
    refine O.nil ?_
    try refine Run.keep [0, 2, 3, 4, 5, 6, 7, 8, 9, 12, 38, 42, 43, 44, 47, 68, 79, 94] rfl rfl ?_
    (repeat (first | refine Run.seq ?_ | refine Run.skip ?_)); (try refine Run.ret ?_); first | exact Ends.flat hE (.inr rfl) rfl rfl (AVle.of_eq rfl) rfl | exact Ends.flat hE (.inl rfl) rfl rfl (AVle.of_eq rfl) rfl
  have h2 : 64 < n := by omega
  repeat (first | refine Run.seq ?_ | refine Run.skip ?_ | refine Run.block ?_)
  refine Run.region ?_
  refine O.field hE L36 rfl rfl rfl rfl ?_
  first | refine O.loadS hE T33 rfl rfl rfl (by rfl) rfl ?_ | refine O.loadE hE T33 rfl rfl (by rfl) rfl ?_ | refine O.load hE T33 rfl rfl rfl rfl ?_
  first | refine O.cmp rfl rfl rfl (by first | exact decide_eq_true (by omega) | exact decide_eq_false (by omega)) rfl ?_ | refine O.cmp rfl rfl rfl rfl rfl ?_
  refine O.move rfl rfl ?_
  first | (refine O.yes rfl rfl (by first | rfl | assumption) ?_; refine O.field hE L36 rfl rfl rfl rfl ?_) | refine O.no rfl rfl rfl rfl ?_
  first | (refine O.yes rfl rfl (by first | rfl | assumption) ?_; first | refine O.loadS hE T3 rfl rfl rfl (by rfl) rfl ?_ | refine O.loadE hE T3 rfl rfl (by rfl) rfl ?_ | refine O.load hE T3 rfl rfl rfl rfl ?_) | refine O.no rfl rfl rfl rfl ?_
  first | (refine O.yes rfl rfl (by first | rfl | assumption) ?_; first | refine O.cmp rfl rfl rfl (by first | exact decide_eq_true (by omega) | exact decide_eq_false (by omega)) rfl ?_ | refine O.cmp rfl rfl rfl rfl rfl ?_) | refine O.no rfl rfl rfl rfl ?_
  refine O.pick rfl rfl rfl rfl rfl ?_
  refine O.move rfl rfl ?_
  first | (refine O.yes rfl rfl (by first | rfl | assumption) ?_; refine O.move rfl rfl ?_) | refine O.no rfl rfl rfl rfl ?_
  first | (refine O.yes rfl rfl (by first | rfl | assumption) ?_; first | refine O.cmp rfl rfl rfl (by first | exact decide_eq_true (by omega) | exact decide_eq_false (by omega)) rfl ?_ | refine O.cmp rfl rfl rfl rfl rfl ?_) | refine O.no rfl rfl rfl rfl ?_
  refine O.pick rfl rfl rfl rfl rfl ?_
  refine O.nil ?_
  try refine Run.keep [0, 2, 3, 4, 5, 6, 7, 8, 9, 12, 38, 42, 43, 44, 47, 68, 79, 94] rfl rfl ?_
  repeat (first | refine Run.seq ?_ | refine Run.skip ?_)
  first | refine Run.condT rfl rfl ?_ | refine Run.condF rfl rfl ?_ | refine Run.condT rfl (by assumption) ?_ | refine Run.condF rfl (by assumption) ?_
  repeat (first | refine Run.seq ?_ | refine Run.skip ?_ | refine Run.block ?_)
  refine Run.region ?_
  refine O.build hE T36 L36 rfl rfl rfl ?_
  refine O.store hE T36 rfl rfl rfl rfl rfl rfl ?_
  refine O.assign rfl rfl ?_
  refine O.nil ?_
  try refine Run.keep [0, 2, 3, 4, 5, 6, 7, 8, 9, 12, 38, 42, 43, 44, 47, 68, 79, 94] rfl rfl ?_
  (repeat (first | refine Run.seq ?_ | refine Run.skip ?_)); (try refine Run.ret ?_); first | exact Ends.flat hE (.inr rfl) rfl rfl (AVle.of_eq rfl) rfl | exact Ends.flat hE (.inl rfl) rfl rfl (AVle.of_eq rfl) rfl
/-- More columns than may be: no row. -/
theorem decode_wide {b : List Int} {k : Int} (hk : 5 < k) (hk2 : k < 256) : FnC (En Tryd.prog gT) 21 [.pv (byv b), .pv (.int .i64 k), .pv (.int .i64 0)] (.tup [.pv .nil, .pv (.int .i64 1)]) [] := by
  have hE := EnOk gT
  refine FnC.of Tryd.func21 rfl rfl rfl rfl ?_
  repeat (first | refine Run.seq ?_ | refine Run.skip ?_ | refine Run.block ?_)
  refine Run.region ?_
  refine O.box 3 rfl (by first | rfl | exact cells_ones (by simp [ones_app, ones_ints, ones, AV.one, PV.one])) rfl rfl ?_
  refine O.assign rfl rfl ?_
  refine O.assign rfl rfl ?_
  refine O.nil ?_
  try refine Run.keep [0, 1, 2, 3, 6, 7, 8, 9, 10, 11, 12, 13, 14, 20, 22, 23, 24, 30, 37, 47] rfl rfl ?_
  repeat (first | refine Run.seq ?_ | refine Run.skip ?_ | refine Run.block ?_)
  refine Run.region ?_
  refine O.move rfl rfl ?_
  first | refine O.cmp rfl rfl rfl (by first | exact decide_eq_true (by omega) | exact decide_eq_false (by omega)) rfl ?_ | refine O.cmp rfl rfl rfl rfl rfl ?_
  refine O.move rfl rfl ?_
  first | (refine O.yes rfl rfl (by first | rfl | assumption) ?_; refine O.move rfl rfl ?_) | refine O.no rfl rfl rfl rfl ?_
  first | (refine O.yes rfl rfl (by first | rfl | assumption) ?_; first | refine O.cmp rfl rfl rfl (by first | exact decide_eq_true (by omega) | exact decide_eq_false (by omega)) rfl ?_ | refine O.cmp rfl rfl rfl rfl rfl ?_) | refine O.no rfl rfl rfl rfl ?_
  refine O.pick rfl rfl rfl rfl rfl ?_
  refine O.nil ?_
  try refine Run.keep [0, 1, 2, 3, 6, 7, 8, 9, 10, 11, 12, 13, 14, 20, 22, 23, 24, 30, 37, 47] rfl rfl ?_
  repeat (first | refine Run.seq ?_ | refine Run.skip ?_)
  first | refine Run.condT rfl rfl ?_ | refine Run.condF rfl rfl ?_ | refine Run.condT rfl (by assumption) ?_ | refine Run.condF rfl (by assumption) ?_
  repeat (first | refine Run.seq ?_ | refine Run.skip ?_ | refine Run.block ?_)
  refine Run.region ?_
  refine O.assign rfl rfl ?_
  refine O.assign rfl rfl ?_
  refine O.nil ?_
  try refine Run.keep [0, 1, 2, 3, 6, 7, 8, 9, 10, 11, 12, 13, 14, 20, 22, 23, 24, 30, 37, 47] rfl rfl ?_
  (repeat (first | refine Run.seq ?_ | refine Run.skip ?_)); (try refine Run.ret ?_); first | exact Ends.flat hE (.inr rfl) rfl rfl (AVle.of_eq rfl) rfl | exact Ends.flat hE (.inl rfl) rfl rfl (AVle.of_eq rfl) rfl
theorem fate_any (n : Nat) : ∀ (m : Nat) (rs : List (List Vl)) (t : List Int), rs.length + m = n → (∀ vs ∈ rs, RowOk vs) → (∀ z ∈ t, 0 ≤ z ∧ z < 256) → t.length ≤ 9223372036854775807 → ∃ rs2 tail x, (∀ vs ∈ rs2, RowOk vs) ∧ rowsP rs ++ t = rowsP rs2 ++ tail ∧ (∀ z ∈ tail, 0 ≤ z ∧ z < 256) ∧ Fate gT n rs2 tail x ∧ (x = 0 → tail = [] ∧ rs2.length = n)
  | 0, rs, t, hl, hr, h8, hb => by
    cases t with
    | nil => exact ⟨rs, [], 0, hr, rfl, by simp, .ok (by omega), fun _ => ⟨rfl, by omega⟩⟩
    | cons z t => exact ⟨rs, z :: t, 3, hr, rfl, h8, .form z t (by omega), fun h => by omega⟩
  | m + 1, rs, t, hl, hr, h8, hb => by
    by_cases h3 : t.length < 3
    · exact ⟨rs, t, 4, hr, rfl, h8, .short t (by omega) h3, fun h => by omega⟩
    obtain ⟨k, m1, m2, R, rfl⟩ : ∃ k m1 m2 R, t = k :: m1 :: m2 :: R := by
      rcases t with _ | ⟨a, _ | ⟨b, _ | ⟨c, R⟩⟩⟩
      · simp at h3
      · simp at h3
      · simp at h3
      · exact ⟨a, b, c, R, rfl⟩
    have b0 := h8 k (by simp)
    have b1 := h8 m1 (by simp)
    have b2 := h8 m2 (by simp)
    by_cases hc : (R.length : Int) < m1 * 256 + m2
    · exact ⟨rs, _, 4, hr, rfl, h8, .cut k m1 m2 R (by omega) hc, fun h => by omega⟩
    have hRb : R.length ≤ 9223372036854775807 := by simp only [List.length_cons] at hb; omega
    obtain ⟨w, hw⟩ : ∃ w : Nat, m1 * 256 + m2 = (w : Int) := ⟨(m1 * 256 + m2).toNat, by omega⟩
    have hwl : w ≤ R.length := by omega
    have h8R : ∀ z ∈ R, 0 ≤ z ∧ z < 256 := fun z hz => h8 z (by simp [hz])
    by_cases hk5 : 5 < k
    · exact ⟨rs, _, 1, hr, rfl, h8, .dec k m1 m2 R 1 (by omega) (by omega) (by decide) (decode_wide hk5 b0.2), fun h => by omega⟩
    obtain ⟨q, hq⟩ : ∃ q : Nat, k = (q : Int) := ⟨k.toNat, by omega⟩
    have hlw : (R.take w).length = w := by rw [List.length_take]; omega
    rcases decode_any (b := R.take w) (k := q) (by omega) (by omega) (fun z hz => h8R z (List.mem_of_mem_take hz)) 0 with ⟨vs, hvl, hg, hb2⟩ | ⟨e, he, cd⟩
    · have hro : RowOk vs := ⟨by omega, hg⟩
      have hrow : k :: m1 :: m2 :: R = rowP vs ++ R.drop w := by
        unfold rowP
        rw [← hb2, hlw, hvl, ← hq]
        simp only [List.cons_append, List.take_append_drop]
        rw [show (w : Int) / 256 % 256 = m1 by omega, show (w : Int) % 256 = m2 by omega]
      have hrw : rowsP rs ++ (k :: m1 :: m2 :: R) = rowsP (rs ++ [vs]) ++ R.drop w := by
        rw [hrow, rowsP_app]
        simp only [rowsP, List.append_nil, List.append_assoc]
      obtain ⟨rs2, tail, x, a1, a2, a3, a4, a5⟩ := fate_any n m (rs ++ [vs]) (R.drop w) (by simp; omega) (fun x hx => (List.mem_append.1 hx).elim (hr x) (fun h => by rw [List.mem_singleton.1 h]; exact hro)) (fun z hz => h8R z (List.mem_of_mem_drop hz)) (by rw [List.length_drop]; omega)
      exact ⟨rs2, tail, x, a1, by rw [hrw, a2], a3, a4, a5⟩
    · refine ⟨rs, _, e, hr, rfl, h8, .dec k m1 m2 R e (by omega) (by omega) he ?_, fun h => absurd h he⟩
      rw [hw, Int.toNat_natCast, hq]
      exact cd
/-- Whatever bytes there are: they tell a reply that is told just so, or none. -/
theorem told_any {b : List Int} (h8 : ∀ z ∈ b, 0 ≤ z ∧ z < 256) (hl : (b.length : Int) ≤ 9223372036854775807) :
    (∃ e c rs, (0 ≤ e ∧ e ≤ 12) ∧ (0 ≤ c ∧ c ≤ 64) ∧ rs.length ≤ 64 ∧ (∀ vs ∈ rs, RowOk vs) ∧ b = e :: c :: ((rs.length : Nat) : Int) :: rowsP rs ∧ FnC (En Tryd.prog gT) 12 [.pv (byv b)] (.tup [rplA e c rs, .pv (.int .i64 0)]) [])
      ∨ ∃ x : Int, x ≠ 0 ∧ FnC (En Tryd.prog gT) 12 [.pv (byv b)] (.tup [rpl0, .pv (.int .i64 x)]) [] := by
  by_cases h3 : b.length < 3
  · exact .inr ⟨4, by decide, told_short h3⟩
  obtain ⟨e, c, n, R, rfl⟩ : ∃ e c n R, b = e :: c :: n :: R := by
    rcases b with _ | ⟨a, _ | ⟨b, _ | ⟨c, R⟩⟩⟩
    · simp at h3
    · simp at h3
    · simp at h3
    · exact ⟨a, b, c, R, rfl⟩
  by_cases hr : 12 < e ∨ 64 < c ∨ 64 < n
  · exact .inr ⟨6, by decide, told_range h8 (by omega) hr⟩
  have b0 := h8 e (by simp)
  have b1 := h8 c (by simp)
  have b2 := h8 n (by simp)
  obtain ⟨w, hw⟩ : ∃ w : Nat, n = (w : Int) := ⟨n.toNat, by omega⟩
  subst hw
  have hRl : R.length ≤ 9223372036854775804 := by simp only [List.length_cons] at hl; omega
  obtain ⟨rs, tail, x, a1, a2, a3, a4, a5⟩ := fate_any w w [] R (by simp) (by simp) (fun z hz => h8 z (by simp [hz])) (by omega)
  have a2' : R = rowsP rs ++ tail := by simpa [rowsP] using a2
  have ct := fnTold (g := gT) (e := e) (c := c) (n := w) (by omega) (by omega) (by omega) (fun v hv => read_good hv) a1 a4 a3 (by rw [← a2']; omega)
  rw [← a2'] at ct
  by_cases hx : x = 0
  · obtain ⟨t0, l0⟩ := a5 hx
    subst hx
    subst t0
    rw [List.append_nil] at a2'
    refine .inl ⟨e, c, rs, by omega, by omega, by omega, a1, by rw [l0, a2'], ct⟩
  · refine .inr ⟨x, hx, ?_⟩
    unfold tolR at ct
    rw [if_neg hx] at ct
    exact ct
theorem fnReplyFixed {b : List Int} (h8 : ∀ z ∈ b, 0 ≤ z ∧ z < 256) (hl : (b.length : Int) ≤ 9223372036854775807) : FnC (En Tryd.prog gT) 5 [.pv (byv b)] (.pv (.bool true)) [] := by
  have hE := EnOk gT
  have cw := fnWireTells (g := gT)
  rcases told_any h8 hl with ⟨e, c, rs, he, hc, hn, hrs, hb, ct⟩ | ⟨x, hx, ct⟩
  ·
    have cl := fnTell (g := gT) vstr he hc hn hrs
    rw [← hb] at cl
    have hstr : ((strOfNums b).toList == (strOfNums b).toList) = true := beq_self_eq_true _
    clear hb
    refine FnC.of Tryd.func5 rfl rfl rfl rfl ?_
    repeat (first | refine Run.seq ?_ | refine Run.skip ?_ | refine Run.block ?_)
    refine Run.region ?_
    refine O.assign rfl rfl ?_
    refine O.nil ?_
    try refine Run.keep [0, 2, 3, 4, 5, 6, 13] rfl rfl ?_
    repeat (first | refine Run.seq ?_ | refine Run.skip ?_ | refine Run.block ?_)
    refine Run.region ?_
    refine O.move rfl rfl ?_
    refine O.callE ct rfl (by first | rfl | simp [closed, men3, mens2_app, mens2_ints, mens2, men2, men1, mens1_app, mens1_ints, mens1]) (by first | rfl | simp [d2, ds1_ints, ds1_app, ds1, d1, ds0_app, ds0_ints, ds0, d0]) rfl ?_
    refine O.move rfl rfl ?_
    refine O.extract rfl rfl rfl ?_
    refine O.extract rfl rfl rfl ?_
    refine O.alloc hE 3 T36 rfl rfl rfl ?_
    refine O.store hE T36 rfl rfl rfl rfl rfl rfl ?_
    refine O.assign rfl rfl ?_
    refine O.nil ?_
    try refine Run.keep [0, 2, 3, 4, 5, 6, 13] rfl rfl ?_
    repeat (first | refine Run.seq ?_ | refine Run.skip ?_ | refine Run.block ?_)
    refine Run.region ?_
    refine O.move rfl rfl ?_
    first | refine O.cmp rfl rfl rfl (by first | exact decide_eq_true (by omega) | exact decide_eq_false (by omega)) rfl ?_ | refine O.cmp rfl rfl rfl rfl rfl ?_
    refine O.nil ?_
    try refine Run.keep [0, 2, 3, 4, 5, 6, 13] rfl rfl ?_
    repeat (first | refine Run.seq ?_ | refine Run.skip ?_)
    first | refine Run.condT rfl rfl ?_ | refine Run.condF rfl rfl ?_ | refine Run.condT rfl (by assumption) ?_ | refine Run.condF rfl (by assumption) ?_
    repeat (first | refine Run.seq ?_ | refine Run.skip ?_ | refine Run.block ?_)
    refine Run.region ?_
    refine O.load hE T36 rfl rfl rfl rfl ?_
    refine O.callE cl rfl (by first | rfl | simp [closed, men3, mens2_app, mens2_ints, mens2, men2, men1, mens1_app, mens1_ints, mens1]) (by first | rfl | simp [d2, ds1_ints, ds1_app, ds1, d1, ds0_app, ds0_ints, ds0, d0]) rfl ?_
    refine O.move rfl rfl ?_
    refine O.extract rfl rfl rfl ?_
    refine O.extract rfl rfl rfl ?_
    refine O.assign rfl rfl ?_
    refine O.assign rfl rfl ?_
    refine O.nil ?_
    try refine Run.keep [0, 2, 3, 4, 5, 6, 13] rfl rfl ?_
    repeat (first | refine Run.seq ?_ | refine Run.skip ?_ | refine Run.block ?_)
    refine Run.region ?_
    refine O.callE cw rfl (by first | rfl | simp [closed, men3, mens2_app, mens2_ints, mens2, men2, men1, mens1_app, mens1_ints, mens1]) (by first | rfl | simp [d2, ds1_ints, ds1_app, ds1, d1, ds0_app, ds0_ints, ds0, d0]) rfl ?_
    refine O.move rfl rfl ?_
    first | (refine O.yes rfl rfl (by first | rfl | assumption) ?_; refine O.move rfl rfl ?_) | refine O.no rfl rfl rfl rfl ?_
    first | (refine O.yes rfl rfl (by first | rfl | assumption) ?_; first | refine O.cmp rfl rfl rfl (by first | exact decide_eq_true (by omega) | exact decide_eq_false (by omega)) rfl ?_ | refine O.cmp rfl rfl rfl rfl rfl ?_) | refine O.no rfl rfl rfl rfl ?_
    refine O.pick rfl rfl rfl rfl rfl ?_
    refine O.move rfl rfl ?_
    first | (refine O.yes rfl rfl (by first | rfl | assumption) ?_; refine O.move rfl rfl ?_) | refine O.no rfl rfl rfl rfl ?_
    first | (refine O.yes rfl rfl (by first | rfl | assumption) ?_; refine O.str hE T27 rfl T5 rfl T9 rfl rfl rfl newest_pv (nums_byv _) rfl rfl ?_) | refine O.no rfl rfl rfl rfl ?_
    first | (refine O.yes rfl rfl (by first | rfl | assumption) ?_; refine O.move rfl rfl ?_) | refine O.no rfl rfl rfl rfl ?_
    first | (refine O.yes rfl rfl (by first | rfl | assumption) ?_; refine O.str hE T27 rfl T5 rfl T9 rfl rfl rfl newest_pv (nums_byv _) rfl rfl ?_) | refine O.no rfl rfl rfl rfl ?_
    first | (refine O.yes rfl rfl (by first | rfl | assumption) ?_; refine O.strEqV rfl rfl hstr rfl ?_) | refine O.no rfl rfl rfl rfl ?_
    refine O.pick rfl rfl rfl rfl rfl ?_
    refine O.assign rfl rfl ?_
    refine O.nil ?_
    try refine Run.keep [0, 2, 3, 4, 5, 6, 13] rfl rfl ?_
    (repeat (first | refine Run.seq ?_ | refine Run.skip ?_)); (try refine Run.ret ?_); first | exact Ends.flat hE (.inr rfl) rfl rfl (AVle.of_eq rfl) rfl | exact Ends.flat hE (.inl rfl) rfl rfl (AVle.of_eq rfl) rfl
  ·
    refine FnC.of Tryd.func5 rfl rfl rfl rfl ?_
    repeat (first | refine Run.seq ?_ | refine Run.skip ?_ | refine Run.block ?_)
    refine Run.region ?_
    refine O.assign rfl rfl ?_
    refine O.nil ?_
    try refine Run.keep [0, 2, 3, 4, 5, 6, 13] rfl rfl ?_
    repeat (first | refine Run.seq ?_ | refine Run.skip ?_ | refine Run.block ?_)
    refine Run.region ?_
    refine O.move rfl rfl ?_
    refine O.callE ct rfl (by first | rfl | simp [closed, men3, mens2_app, mens2_ints, mens2, men2, men1, mens1_app, mens1_ints, mens1]) (by first | rfl | simp [d2, ds1_ints, ds1_app, ds1, d1, ds0_app, ds0_ints, ds0, d0]) rfl ?_
    refine O.move rfl rfl ?_
    refine O.extract rfl rfl rfl ?_
    refine O.extract rfl rfl rfl ?_
    refine O.alloc hE 3 T36 rfl rfl rfl ?_
    refine O.store hE T36 rfl rfl rfl rfl rfl rfl ?_
    refine O.assign rfl rfl ?_
    refine O.nil ?_
    try refine Run.keep [0, 2, 3, 4, 5, 6, 13] rfl rfl ?_
    repeat (first | refine Run.seq ?_ | refine Run.skip ?_ | refine Run.block ?_)
    refine Run.region ?_
    refine O.move rfl rfl ?_
    refine O.cmp (c' := true) rfl rfl rfl (by simpa using hx) rfl ?_
    refine O.nil ?_
    try refine Run.keep [0, 2, 3, 4, 5, 6, 13] rfl rfl ?_
    repeat (first | refine Run.seq ?_ | refine Run.skip ?_)
    first | refine Run.condT rfl rfl ?_ | refine Run.condF rfl rfl ?_ | refine Run.condT rfl (by assumption) ?_ | refine Run.condF rfl (by assumption) ?_
    repeat (first | refine Run.seq ?_ | refine Run.skip ?_ | refine Run.block ?_)
    refine Run.region ?_
    refine O.callE cw rfl (by first | rfl | simp [closed, men3, mens2_app, mens2_ints, mens2, men2, men1, mens1_app, mens1_ints, mens1]) (by first | rfl | simp [d2, ds1_ints, ds1_app, ds1, d1, ds0_app, ds0_ints, ds0, d0]) rfl ?_
    refine O.move rfl rfl ?_
    first | (refine O.yes rfl rfl (by first | rfl | assumption) ?_; refine O.field hE L36 rfl rfl rfl rfl ?_) | refine O.no rfl rfl rfl rfl ?_
    first | (refine O.yes rfl rfl (by first | rfl | assumption) ?_; first | refine O.loadS hE T34 rfl rfl rfl (by rfl) rfl ?_ | refine O.loadE hE T34 rfl rfl (by rfl) rfl ?_ | refine O.load hE T34 rfl rfl rfl rfl ?_) | refine O.no rfl rfl rfl rfl ?_
    first | (refine O.yes rfl rfl (by first | rfl | assumption) ?_; refine O.lenN (m := 0) hE T34 rfl rfl rfl newest_pv rfl rfl ?_) | refine O.no rfl rfl rfl rfl ?_
    first | (refine O.yes rfl rfl (by first | rfl | assumption) ?_; first | refine O.cmp rfl rfl rfl (by first | exact decide_eq_true (by omega) | exact decide_eq_false (by omega)) rfl ?_ | refine O.cmp rfl rfl rfl rfl rfl ?_) | refine O.no rfl rfl rfl rfl ?_
    refine O.pick rfl rfl rfl rfl rfl ?_
    refine O.assign rfl rfl ?_
    refine O.nil ?_
    try refine Run.keep [0, 2, 3, 4, 5, 6, 13] rfl rfl ?_
    refine Run.ret ?_
    (repeat (first | refine Run.seq ?_ | refine Run.skip ?_)); (try refine Run.ret ?_); first | exact Ends.flat hE (.inr rfl) rfl rfl (AVle.of_eq rfl) rfl | exact Ends.flat hE (.inl rfl) rfl rfl (AVle.of_eq rfl) rfl
end Go.Proofs.YtalcpfpjkfpmbaaDoor.Vm
