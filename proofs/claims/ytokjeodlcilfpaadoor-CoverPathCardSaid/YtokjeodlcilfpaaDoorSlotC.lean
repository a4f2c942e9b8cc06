/- Slots: the root of a tree, a path, what a path proves. Conditions: the table of steps has 64 words. -/
import Derived.Test.YtokjeodlcilfpaaDoorSlotB
namespace Go.Proofs.YtokjeodlcilfpaaDoor.Vm
open Go Go.RowKit
set_option linter.unusedVariables false
set_option linter.unusedSimpArgs false
attribute [local irreducible] Ops Dr Run digP
variable {g : Nat → Option (List PV)}
theorem digP_pos {T : List Int → List Int → List Int} {mode : Int} (tag : Int) (q : List (List Int)) : 0 < (digP T mode tag q).length := by
  unfold digP
  split
  · have := frameL_len tag q; have := tot_nn q; omega
  · rw [sumP_len]; decide
def upN (D : Int → List (List Int) → List Int) (r : List (List Int)) : Nat → List (List Int)
  | 0 => r
  | j + 1 => upP D (upN D r j)
/-- The rows of a tree, from its leaves up to its root. -/
structure Tree (g : Nat → Option (List PV)) (mode : Int) (k : Nat) (R : Nat → List (List Int)) : Prop where
  len : ∀ j, j ≤ k → (R j).length = 2 ^ (k - j)
  up : ∀ j, j < k → FnC (En Tryd.prog g) 34 [.pv (.int .i64 mode), .pv (.lst 1 ((R j).map bys))] (.tup [.pv (.lst 1 ((R (j + 1)).map bys)), .pv (.int .i64 0)]) []
  node : ∀ j, j < k → ∀ y, y < 2 ^ (k - (j + 1)) → FnC (En Tryd.prog g) 46 [.pv (.int .i64 mode), .pv (bys ((R j).getD (2 * y) [])), .pv (bys ((R j).getD (2 * y + 1) []))] (.tup [.pv (bys ((R (j + 1)).getD y [])), .pv (.int .i64 0)]) []
  pos : ∀ j, j ≤ k → ∀ p ∈ R j, 0 < p.length
  max : ∀ j, j ≤ k → ∀ p ∈ R j, (p.length : Int) ≤ 100000
theorem half_pow {k j : Nat} (h : j < k) : 2 ^ (k - j) = 2 * 2 ^ (k - (j + 1)) := by
  rw [show k - j = (k - (j + 1)) + 1 by omega, Nat.pow_succ]; omega
theorem upN_len {D : Int → List (List Int) → List Int} {r : List (List Int)} {k : Nat} (hl : r.length = 2 ^ k) : ∀ j, j ≤ k → (upN D r j).length = 2 ^ (k - j)
  | 0, _ => by simpa [upN] using hl
  | j + 1, h => by
    have := upN_len (D := D) hl j (by omega)
    rw [upN, upP_len, this, half_pow (by omega)]
    omega
theorem upN_max {T : List Int → List Int → List Int} {mode : Int} {r : List (List Int)} (hb : ∀ p ∈ r, (p.length : Int) ≤ 120) : ∀ (j : Nat), ∀ p ∈ upN (digP T mode) r j, (p.length : Int) ≤ 130 * 2 ^ j - 10
  | 0 => fun p hp => by have := hb p hp; simp; omega
  | j + 1 => fun p hp => by
    have ih := upN_max (T := T) (mode := mode) hb j
    have h1 : (1 : Int) ≤ 2 ^ j := Int.pow_pos (by decide)
    obtain ⟨i, _, rfl⟩ := List.mem_map.1 hp
    have a := getD_len ih (by omega) (2 * i)
    have b := getD_len ih (by omega) (2 * i + 1)
    rw [Int.pow_succ]
    exact digP_len (by omega) (by simp only [tot]; omega)
theorem tree_ok {T : List Int → List Int → List Int} (hT : Feeds g T) {mode : Int} (hm : mode = 1 ∨ mode = 2) {k : Nat} (hk : k ≤ 6) {r : List (List Int)} (hl : r.length = 2 ^ k) (hb : ∀ p ∈ r, (p.length : Int) ≤ 120) (hp : ∀ p ∈ r, 0 < p.length) : Tree g mode k (upN (digP T mode) r) := by
  have hlen := upN_len (D := digP T mode) hl
  have h64 : ∀ j, j ≤ k → (2 : Nat) ^ (k - j) ≤ 64 := fun j _ => Nat.pow_le_pow_right (n := 2) (j := 6) (by decide) (by omega)
  have hmax : ∀ j, j ≤ k → ∀ p ∈ upN (digP T mode) r j, (p.length : Int) ≤ 100000 := fun j hj p hp => by
    have h1 := upN_max (T := T) (mode := mode) hb j p hp
    have h2 : ((2 ^ j : Nat) : Int) ≤ ((2 ^ 6 : Nat) : Int) := Int.ofNat_le.2 (Nat.pow_le_pow_right (by decide) (by omega))
    have h3 : ((2 ^ j : Nat) : Int) = 2 ^ j := by simp
    have h4 : ((2 ^ 6 : Nat) : Int) = 64 := by decide
    rw [h3, h4] at h2
    omega
  refine ⟨hlen, fun j hj => ?_, fun j hj y hy => ?_, fun j hj p hpm => ?_, hmax⟩
  · refine fnUp hT hm (h := 2 ^ (k - (j + 1))) ?_ ?_ (hmax j (by omega))
    · rw [hlen j (by omega), half_pow hj]
    · have := h64 (j + 1) (by omega); omega
  · have e : (upN (digP T mode) r (j + 1)).getD y [] = digP T mode 2 [(upN (digP T mode) r j).getD (2 * y) [], (upN (digP T mode) r j).getD (2 * y + 1) []] := by
      rw [upN]
      exact upP_get (by rw [hlen j (by omega), half_pow hj]; omega)
    rw [e]
    have h1 := getD_len (hmax j (by omega)) (by omega) (2 * y)
    have h2 := getD_len (hmax j (by omega)) (by omega) (2 * y + 1)
    exact fnNode hT hm (by omega) (by omega)
  · cases j with
    | zero => exact hp p hpm
    | succ j =>
      obtain ⟨i, _, rfl⟩ := List.mem_map.1 hpm
      exact digP_pos _ _
def sib (x : Nat) : Nat := if x % 2 = 0 then x + 1 else x - 1
theorem sib_bit {x : Nat} (h : x < 64) : bitI .xor .i64 (x : Int) 1 = some ((sib x : Nat) : Int) := by
  have key : ∀ y : Fin 64, bitI .xor .i64 ((y.val : Nat) : Int) 1 = some ((sib y.val : Nat) : Int) := by decide +kernel
  exact key ⟨x, h⟩
section
variable {E : Env} {tm : List (Nat × AV)} {bx : List (Nat × Box)}
theorem elems_gl {x : Operand} {b n e : Nat} {q : List Int} (hx : evO E tm x = some (.gl b n)) (hb : look bx b = some (.lst e 1 (q.map (PV.int .u8)))) (hn : n = q.length) : elemsO E bx tm 1 0 [(0, x)] = some [bys q] := by
  have : (q.map (PV.int .u8)).take n = q.map (PV.int .u8) := List.take_of_length_le (by simp [hn])
  simp only [elemsO, hx, Option.bind_some, pubO, hb, this]
  rfl
end
theorem fnRootS {T : List Int → List Int → List Int} (hT : Feeds g T) {mode : Int} (hm : mode = 1 ∨ mode = 2) {k : Nat} {ss : List Sl} (hk : k ≤ 4) (hl : ss.length = 2 ^ k) (hs : ∀ s ∈ ss, Sok s) {R : Nat → List (List Int)} (hR : Tree g mode k R) (h0 : R 0 = ss.map (leafP (digP T mode))) : FnC (En Tryd.prog g) 20 [.pv (.int .i64 mode), .pv (.lst 3 (ss.map slE))] (.tup [.pv (bys ((R k).getD 0 [])), .pv (.int .i64 0)]) [] := by
  have hE := EnOk g
  have c1 := fnLeaves hT hm hk hl hs
  rw [← h0] at c1
  refine FnC.of Tryd.func20 rfl rfl rfl rfl ?_
  repeat (first | refine Run.seq ?_ | refine Run.skip ?_ | refine Run.block ?_)
  refine Run.region ?_
  refine O.assign rfl rfl ?_
  refine O.assign rfl rfl ?_
  refine O.nil ?_
  try refine Run.keep [0, 1, 4, 5, 6, 7, 20, 28] rfl rfl ?_
  repeat (first | refine Run.seq ?_ | refine Run.skip ?_ | refine Run.block ?_)
  refine Run.region ?_
  refine O.move rfl rfl ?_
  refine O.move rfl rfl ?_
  refine O.callE c1 rfl (by first | rfl | simp [closed, men3, mens2_app, mens2_ints, mens2, men2, men1, mens1_app, mens1_ints, mens1]) (by first | rfl | simp [d2, ds1_ints, ds1_app, ds1, d1, ds0_app, ds0_ints, ds0, d0]) rfl ?_
  refine O.move rfl rfl ?_
  refine O.extract rfl rfl rfl ?_
  refine O.extract rfl rfl rfl ?_
  refine O.assign rfl rfl ?_
  refine O.assign rfl rfl ?_
  refine O.nil ?_
  try refine Run.keep [0, 1, 4, 5, 6, 7, 20, 28] rfl rfl ?_
  repeat (first | refine Run.seq ?_ | refine Run.skip ?_)
  refine Run.block ?_
  refine Run.loopInv (ι := Nat) (fun j => j ≤ k) (fun j => ⟨33, [(0, .pv (.int .i64 mode)), (4, .pv .nil), (5, .pv (.int .i64 0)), (6, .pv (.lst 1 ((R j).map bys))), (7, .pv (.int .i64 0))], []⟩) (fun j => k - j) 0 (by omega) ?_ ?_
  ·
    refine SLe.eqv (by repeat (first | exact TmIn.nil | refine TmIn.cons rfl ?_)) (by repeat (first | exact BxIn.nil | refine BxIn.cons rfl ?_)) rfl
  rintro j hj ih
  have hlj := hR.len j hj
  have hlm : ((R j).map bys).length = (R j).length := by simp
  by_cases hlt : j < k
  ·
    have c2 := hR.up j hlt
    have h2 : 2 ≤ (R j).length := by
      have := Nat.pow_pos (n := k - (j + 1)) (show 0 < 2 by decide)
      rw [hlj, half_pow hlt]; omega
    repeat (first | refine Run.seq ?_ | refine Run.skip ?_ | refine Run.block ?_)
    refine Run.region ?_
    refine O.move rfl rfl ?_
    first | refine O.cmp rfl rfl rfl (by first | exact decide_eq_true (by omega) | exact decide_eq_false (by omega)) rfl ?_ | refine O.cmp rfl rfl rfl rfl rfl ?_
    refine O.move rfl rfl ?_
    first | (refine O.yes rfl rfl (by first | rfl | assumption) ?_; refine O.move rfl rfl ?_) | refine O.no rfl rfl rfl rfl ?_
    first | (refine O.yes rfl rfl (by first | rfl | assumption) ?_; first | refine O.lenN hE T27 rfl rfl rfl (by first | exact newest_pv | exact newest_gl rfl rfl | trivial) lenC rfl ?_ | refine O.lenLst hE T27 rfl rfl rfl (by first | exact newest_pv | exact newest_gl rfl rfl | trivial) rfl ?_) | refine O.no rfl rfl rfl rfl ?_
    first | (refine O.yes rfl rfl (by first | rfl | assumption) ?_; first | refine O.cmp rfl rfl rfl (by first | exact decide_eq_true (by omega) | exact decide_eq_false (by omega)) rfl ?_ | refine O.cmp rfl rfl rfl rfl rfl ?_) | refine O.no rfl rfl rfl rfl ?_
    refine O.pick rfl rfl rfl rfl rfl ?_
    refine O.nil ?_
    try refine Run.keep [0, 1, 4, 5, 6, 7, 20, 28] rfl rfl ?_
    repeat (first | refine Run.seq ?_ | refine Run.skip ?_)
    first | refine Run.condT rfl rfl ?_ | refine Run.condF rfl rfl ?_ | refine Run.condT rfl (by assumption) ?_ | refine Run.condF rfl (by assumption) ?_
    repeat (first | refine Run.seq ?_ | refine Run.skip ?_ | refine Run.block ?_)
    refine Run.region ?_
    refine O.move rfl rfl ?_
    refine O.move rfl rfl ?_
    refine O.callE c2 rfl (by first | rfl | simp [closed, men3, mens2_app, mens2_ints, mens2, men2, men1, mens1_app, mens1_ints, mens1]) (by first | rfl | simp [d2, ds1_ints, ds1_app, ds1, d1, ds0_app, ds0_ints, ds0, d0]) rfl ?_
    refine O.move rfl rfl ?_
    refine O.extract rfl rfl rfl ?_
    refine O.extract rfl rfl rfl ?_
    refine O.assign rfl rfl ?_
    refine O.assign rfl rfl ?_
    refine O.nil ?_
    try refine Run.keep [0, 1, 4, 5, 6, 7, 20, 28] rfl rfl ?_
    exact ih (j + 1) _ (by refine SLe.eqv (by repeat (first | exact TmIn.nil | refine TmIn.cons rfl ?_)) (by repeat (first | exact BxIn.nil | refine BxIn.cons rfl ?_)) rfl) (by omega) (by omega)
  obtain rfl : j = k := by omega
  have h1 : (R j).length = 1 := by rw [hlj, Nat.sub_self]
  have hat : ((R j).map bys)[(0 : Int).toNat]? = some (bys ((R j).getD 0 [])) := ps_at (i := 0) (by omega)
  generalize (R j).getD 0 [] = top at *
  repeat (first | refine Run.seq ?_ | refine Run.skip ?_ | refine Run.block ?_)
  refine Run.region ?_
  refine O.move rfl rfl ?_
  first | refine O.cmp rfl rfl rfl (by first | exact decide_eq_true (by omega) | exact decide_eq_false (by omega)) rfl ?_ | refine O.cmp rfl rfl rfl rfl rfl ?_
  refine O.move rfl rfl ?_
  first | (refine O.yes rfl rfl (by first | rfl | assumption) ?_; refine O.move rfl rfl ?_) | refine O.no rfl rfl rfl rfl ?_
  first | (refine O.yes rfl rfl (by first | rfl | assumption) ?_; first | refine O.lenN hE T27 rfl rfl rfl (by first | exact newest_pv | exact newest_gl rfl rfl | trivial) lenC rfl ?_ | refine O.lenLst hE T27 rfl rfl rfl (by first | exact newest_pv | exact newest_gl rfl rfl | trivial) rfl ?_) | refine O.no rfl rfl rfl rfl ?_
  first | (refine O.yes rfl rfl (by first | rfl | assumption) ?_; first | refine O.cmp rfl rfl rfl (by first | exact decide_eq_true (by omega) | exact decide_eq_false (by omega)) rfl ?_ | refine O.cmp rfl rfl rfl rfl rfl ?_) | refine O.no rfl rfl rfl rfl ?_
  refine O.pick rfl rfl rfl rfl rfl ?_
  refine O.nil ?_
  try refine Run.keep [0, 1, 4, 5, 6, 7, 20, 28] rfl rfl ?_
  repeat (first | refine Run.seq ?_ | refine Run.skip ?_)
  first | refine Run.condT rfl rfl ?_ | refine Run.condF rfl rfl ?_ | refine Run.condT rfl (by assumption) ?_ | refine Run.condF rfl (by assumption) ?_
  refine Run.exit ?_
  repeat (first | refine thenR_exit ?_ | refine roundR_exit ?_ | refine blockR_exit ?_ | refine blockR_pass rfl ?_)
  repeat (first | refine Run.seq ?_ | refine Run.skip ?_ | refine Run.block ?_)
  refine Run.region ?_
  refine O.move rfl rfl ?_
  first | refine O.cmp rfl rfl rfl (by first | exact decide_eq_true (by omega) | exact decide_eq_false (by omega)) rfl ?_ | refine O.cmp rfl rfl rfl rfl rfl ?_
  refine O.nil ?_
  try refine Run.keep [0, 1, 4, 5, 6, 7, 20, 28] rfl rfl ?_
  repeat (first | refine Run.seq ?_ | refine Run.skip ?_)
  first | refine Run.condT rfl rfl ?_ | refine Run.condF rfl rfl ?_ | refine Run.condT rfl (by assumption) ?_ | refine Run.condF rfl (by assumption) ?_
  repeat (first | refine Run.seq ?_ | refine Run.skip ?_ | refine Run.block ?_)
  refine Run.region ?_
  refine O.move rfl rfl ?_
  refine O.index hE T27 rfl T33 rfl rfl newest_pv rfl (by omega) hat rfl rfl rfl ?_
  first | refine O.loadS hE T33 rfl rfl rfl (by rfl) rfl ?_ | refine O.loadE hE T33 rfl rfl (by rfl) rfl ?_ | refine O.load hE T33 rfl rfl rfl rfl ?_
  refine O.assign rfl rfl ?_
  refine O.assign rfl rfl ?_
  refine O.nil ?_
  try refine Run.keep [0, 1, 4, 5, 6, 7, 20, 28] rfl rfl ?_
  (repeat (first | refine Run.seq ?_ | refine Run.skip ?_)); (try refine Run.ret ?_); first | exact Ends.flat hE (.inr rfl) rfl rfl (AVle.of_eq rfl) rfl | exact Ends.flat hE (.inl rfl) rfl rfl (AVle.of_eq rfl) rfl
/-- The path from the i-th slot to the root. -/
def sibs (R : Nat → List (List Int)) (i : Nat) (k : Nat) : List (List Int) := (List.range k).map fun j => (R j).getD (sib (i / 2 ^ j)) []
theorem div_pow {i j : Nat} : i / 2 ^ (j + 1) = i / 2 ^ j / 2 := by rw [Nat.pow_succ, Nat.div_div_eq_div_mul]
theorem div_lt {i j k : Nat} (h : i < 2 ^ k) (hj : j ≤ k) : i / 2 ^ j < 2 ^ (k - j) := by
  rw [Nat.div_lt_iff_lt_mul (Nat.pow_pos (by decide)), ← Nat.pow_add, show k - j + j = k by omega]
  exact h
theorem fnPathS {T : List Int → List Int → List Int} (hT : Feeds g T) {mode : Int} (hm : mode = 1 ∨ mode = 2) {k : Nat} {ss : List Sl} (hk : k ≤ 4) (hl : ss.length = 2 ^ k) (hs : ∀ s ∈ ss, Sok s) {R : Nat → List (List Int)} (hR : Tree g mode k R) (h0 : R 0 = ss.map (leafP (digP T mode))) {i : Nat} (hi : i < ss.length) : FnC (En Tryd.prog g) 17 [.pv (.int .i64 mode), .pv (.lst 3 (ss.map slE)), .pv (.int .i64 i)] (.tup [.pv (.lst 1 ((sibs R i k).map bys)), .pv (.int .i64 0)]) [] := by
  have hE := EnOk g
  have c1 := fnLeaves hT hm hk hl hs
  rw [← h0] at c1
  have hlen : (ss.map slE).length = ss.length := by simp
  rw [hl] at hi
  obtain ⟨X, hX⟩ : ∃ X : Nat → Nat, ∀ j, X j = i / 2 ^ j := ⟨fun j => i / 2 ^ j, fun _ => rfl⟩
  have hX0 : X 0 = i := by rw [hX]; simp
  have hXs : ∀ j, X (j + 1) = X j / 2 := fun j => by rw [hX, hX]; exact div_pow
  have hXl : ∀ j, j ≤ k → X j < 2 ^ (k - j) := fun j hj => by rw [hX]; exact div_lt hi hj
  obtain ⟨G, hG⟩ : ∃ G : Nat → List Int, ∀ j, G j = (R j).getD (sib (X j)) [] := ⟨_, fun _ => rfl⟩
  have hsb : sibs R i k = (List.range k).map G := by
    unfold sibs
    refine List.map_congr_left fun j _ => ?_
    rw [hG, hX]
  rw [hsb]
  rw [← hl] at hi
  refine FnC.of Tryd.func17 rfl rfl rfl rfl ?_
  repeat (first | refine Run.seq ?_ | refine Run.skip ?_ | refine Run.block ?_)
  refine Run.region ?_
  refine O.assign rfl rfl ?_
  refine O.assign rfl rfl ?_
  refine O.nil ?_
  try refine Run.keep [0, 1, 2, 6, 7, 8, 9, 10, 18, 27, 30, 48] rfl rfl ?_
  repeat (first | refine Run.seq ?_ | refine Run.skip ?_ | refine Run.block ?_)
  refine Run.region ?_
  refine O.move rfl rfl ?_
  refine O.move rfl rfl ?_
  refine O.callE c1 rfl (by first | rfl | simp [closed, men3, mens2_app, mens2_ints, mens2, men2, men1, mens1_app, mens1_ints, mens1]) (by first | rfl | simp [d2, ds1_ints, ds1_app, ds1, d1, ds0_app, ds0_ints, ds0, d0]) rfl ?_
  refine O.move rfl rfl ?_
  refine O.extract rfl rfl rfl ?_
  refine O.extract rfl rfl rfl ?_
  refine O.assign rfl rfl ?_
  refine O.assign rfl rfl ?_
  refine O.nil ?_
  try refine Run.keep [0, 1, 2, 6, 7, 8, 9, 10, 18, 27, 30, 48] rfl rfl ?_
  repeat (first | refine Run.seq ?_ | refine Run.skip ?_ | refine Run.block ?_)
  refine Run.region ?_
  refine O.move rfl rfl ?_
  first | refine O.cmp rfl rfl rfl (by first | exact decide_eq_true (by omega) | exact decide_eq_false (by omega)) rfl ?_ | refine O.cmp rfl rfl rfl rfl rfl ?_
  refine O.nil ?_
  try refine Run.keep [0, 1, 2, 6, 7, 8, 9, 10, 18, 27, 30, 48] rfl rfl ?_
  repeat (first | refine Run.seq ?_ | refine Run.skip ?_)
  first | refine Run.condT rfl rfl ?_ | refine Run.condF rfl rfl ?_ | refine Run.condT rfl (by assumption) ?_ | refine Run.condF rfl (by assumption) ?_
  repeat (first | refine Run.seq ?_ | refine Run.skip ?_ | refine Run.block ?_)
  refine Run.region ?_
  refine O.move rfl rfl ?_
  first | refine O.cmp rfl rfl rfl (by first | exact decide_eq_true (by omega) | exact decide_eq_false (by omega)) rfl ?_ | refine O.cmp rfl rfl rfl rfl rfl ?_
  refine O.move rfl rfl ?_
  first | (refine O.yes rfl rfl (by first | rfl | assumption) ?_; refine O.move rfl rfl ?_) | refine O.no rfl rfl rfl rfl ?_
  first | (refine O.yes rfl rfl (by first | rfl | assumption) ?_; refine O.move rfl rfl ?_) | refine O.no rfl rfl rfl rfl ?_
  first | (refine O.yes rfl rfl (by first | rfl | assumption) ?_; first | refine O.lenN hE T23 rfl rfl rfl (by first | exact newest_pv | exact newest_gl rfl rfl | trivial) lenC rfl ?_ | refine O.lenLst hE T23 rfl rfl rfl (by first | exact newest_pv | exact newest_gl rfl rfl | trivial) rfl ?_) | refine O.no rfl rfl rfl rfl ?_
  first | (refine O.yes rfl rfl (by first | rfl | assumption) ?_; first | refine O.cmp rfl rfl rfl (by first | exact decide_eq_true (by omega) | exact decide_eq_false (by omega)) rfl ?_ | refine O.cmp rfl rfl rfl rfl rfl ?_) | refine O.no rfl rfl rfl rfl ?_
  refine O.pick rfl rfl rfl rfl rfl ?_
  refine O.nil ?_
  try refine Run.keep [0, 1, 2, 6, 7, 8, 9, 10, 18, 27, 30, 48] rfl rfl ?_
  repeat (first | refine Run.seq ?_ | refine Run.skip ?_)
  first | refine Run.condT rfl rfl ?_ | refine Run.condF rfl rfl ?_ | refine Run.condT rfl (by assumption) ?_ | refine Run.condF rfl (by assumption) ?_
  repeat (first | refine Run.seq ?_ | refine Run.skip ?_ | refine Run.block ?_)
  refine Run.region ?_
  refine O.assign rfl rfl ?_
  refine O.nil ?_
  try refine Run.keep [0, 1, 2, 6, 7, 8, 9, 10, 18, 27, 30, 48] rfl rfl ?_
  refine Run.pre (SLe.nilBox (t := 10) (b := 57) (e := 33) (sz := 1) rfl rfl rfl rfl) ?_
  repeat (first | refine Run.seq ?_ | refine Run.skip ?_)
  refine Run.block ?_
  refine Run.loopInv (ι := Nat) (fun j => j ≤ k) (fun j => ⟨53, [(0, .pv (.int .i64 mode)), (2, .pv (.int .i64 (X j))), (6, .pv .nil), (7, .pv (.int .i64 0)), (8, .pv (.lst 1 ((R j).map bys))), (10, .gl 57 ((List.range j).map G).length)], [(57, .lst 33 1 (((List.range j).map G).map bys))]⟩) (fun j => k - j) 0 (by omega) ?_ ?_
  ·
    rw [hX0]
    refine SLe.eqv (by repeat (first | exact TmIn.nil | refine TmIn.cons rfl ?_)) (by repeat (first | exact BxIn.nil | refine BxIn.cons rfl ?_)) rfl
  rintro j hj ih
  have hlj := hR.len j hj
  have hlm : ((R j).map bys).length = (R j).length := by simp
  by_cases hlt : j < k
  ·
    have c2 := hR.up j hlt
    have hp := Nat.pow_pos (n := k - (j + 1)) (show 0 < 2 by decide)
    have h2 : (R j).length = 2 * 2 ^ (k - (j + 1)) := by rw [hlj, half_pow hlt]
    have hxl := hXl j hj
    rw [half_pow hlt] at hxl
    have h16 : 2 ^ (k - j) ≤ 16 := Nat.pow_le_pow_right (n := 2) (j := 4) (by decide) (by omega)
    have hx16 : X j < 16 := by have := hXl j hj; omega
    have hbit := sib_bit (x := X j) (by omega)
    have hsl : sib (X j) < (R j).length := by rw [h2]; unfold sib; split <;> omega
    have hat : ((R j).map bys)[((sib (X j) : Nat) : Int).toNat]? = some (bys (G j)) := by rw [Int.toNat_natCast, hG]; exact ps_at hsl
    have hq : IntKind.i64.wrap ((X j : Int) / 2) = (X (j + 1) : Int) := by rw [wrap_i64 (by omega) (by omega), hXs]; omega
    have htk : (List.range (j + 1)).map G = (List.range j).map G ++ [G j] := by rw [List.range_succ, List.map_append]; rfl
    have hGl : ((List.range j).map G).length = j := by simp
    have hgl : (G j).length ≤ 100000 := by rw [hG]; have := getD_len (hR.max j hj) (by omega) (sib (X j)); omega
    generalize sib (X j) = sx at *
    repeat (first | refine Run.seq ?_ | refine Run.skip ?_ | refine Run.block ?_)
    refine Run.region ?_
    refine O.move rfl rfl ?_
    first | refine O.lenN hE T27 rfl rfl rfl (by first | exact newest_pv | exact newest_gl rfl rfl | trivial) lenC rfl ?_ | refine O.lenLst hE T27 rfl rfl rfl (by first | exact newest_pv | exact newest_gl rfl rfl | trivial) rfl ?_
    first | refine O.cmp rfl rfl rfl (by first | exact decide_eq_true (by omega) | exact decide_eq_false (by omega)) rfl ?_ | refine O.cmp rfl rfl rfl rfl rfl ?_
    refine O.nil ?_
    try refine Run.keep [0, 1, 2, 6, 7, 8, 9, 10, 18, 27, 30, 48] rfl rfl ?_
    repeat (first | refine Run.seq ?_ | refine Run.skip ?_)
    first | refine Run.condT rfl rfl ?_ | refine Run.condF rfl rfl ?_ | refine Run.condT rfl (by assumption) ?_ | refine Run.condF rfl (by assumption) ?_
    repeat (first | refine Run.seq ?_ | refine Run.skip ?_ | refine Run.block ?_)
    refine Run.region ?_
    refine O.move rfl rfl ?_
    refine O.lit hE 32 T33 rfl T5 rfl rfl rfl rfl rfl rfl rfl rfl ?_
    refine O.move rfl rfl ?_
    refine O.move rfl rfl ?_
    refine O.bit rfl rfl hbit rfl ?_
    refine O.index hE T27 rfl T33 rfl rfl newest_pv rfl (by omega) hat rfl rfl rfl ?_
    first | refine O.loadS hE T33 rfl rfl rfl (by rfl) rfl ?_ | refine O.loadE hE T33 rfl rfl (by rfl) rfl ?_ | refine O.load hE T33 rfl rfl rfl rfl ?_
    refine O.appM (PV.int .u8) (q := []) (r := G j) hE T33 rfl T5 rfl rfl rfl rfl rfl newest_pv rfl rfl rfl rfl (by simp; omega) (by simp [maxLen]; omega) rfl ?_
    refine O.litV hE T27 rfl T33 rfl rfl (elems_gl (q := G j) rfl rfl rfl) rfl rfl rfl rfl ?_
    refine O.appM bys (r := [G j]) hE T27 rfl T33 rfl rfl rfl rfl rfl newest_pv rfl rfl rfl rfl (by simp; omega) (by simp [maxLen]; omega) rfl ?_
    refine O.assign rfl rfl ?_
    refine O.nil ?_
    try refine Run.keep [0, 1, 2, 6, 7, 8, 9, 10, 18, 27, 30, 48] rfl rfl ?_
    repeat (first | refine Run.seq ?_ | refine Run.skip ?_ | refine Run.block ?_)
    refine Run.region ?_
    refine O.move rfl rfl ?_
    refine O.move rfl rfl ?_
    refine O.callE c2 rfl (by first | rfl | simp [closed, men3, mens2_app, mens2_ints, mens2, men2, men1, mens1_app, mens1_ints, mens1]) (by first | rfl | simp [d2, ds1_ints, ds1_app, ds1, d1, ds0_app, ds0_ints, ds0, d0]) rfl ?_
    refine O.move rfl rfl ?_
    refine O.extract rfl rfl rfl ?_
    refine O.extract rfl rfl rfl ?_
    refine O.assign rfl rfl ?_
    refine O.assign rfl rfl ?_
    refine O.nil ?_
    try refine Run.keep [0, 1, 2, 6, 7, 8, 9, 10, 18, 27, 30, 48] rfl rfl ?_
    repeat (first | refine Run.seq ?_ | refine Run.skip ?_ | refine Run.block ?_)
    refine Run.region ?_
    refine O.move rfl rfl ?_
    first | refine O.cmp rfl rfl rfl (by first | exact decide_eq_true (by omega) | exact decide_eq_false (by omega)) rfl ?_ | refine O.cmp rfl rfl rfl rfl rfl ?_
    refine O.nil ?_
    try refine Run.keep [0, 1, 2, 6, 7, 8, 9, 10, 18, 27, 30, 48] rfl rfl ?_
    repeat (first | refine Run.seq ?_ | refine Run.skip ?_)
    first | refine Run.condT rfl rfl ?_ | refine Run.condF rfl rfl ?_ | refine Run.condT rfl (by assumption) ?_ | refine Run.condF rfl (by assumption) ?_
    repeat (first | refine Run.seq ?_ | refine Run.skip ?_ | refine Run.block ?_)
    refine Run.region ?_
    refine O.move rfl rfl ?_
    refine O.quoE rfl rfl (by omega) (by omega) hq rfl ?_
    refine O.assign rfl rfl ?_
    refine O.nil ?_
    try refine Run.keep [0, 1, 2, 6, 7, 8, 9, 10, 18, 27, 30, 48] rfl rfl ?_
    refine ih (j + 1) _ ?_ (by omega) (by omega)
    rw [htk]
    exact SLe.drop (by repeat (first | exact TmIn.nil | refine TmIn.cons rfl ?_)) (by repeat (first | exact BxIn.nil | refine BxIn.cons rfl ?_)) rfl rfl
  obtain rfl : j = k := by omega
  have h1 : (R j).length = 1 := by rw [hlj, Nat.sub_self]
  repeat (first | refine Run.seq ?_ | refine Run.skip ?_ | refine Run.block ?_)
  refine Run.region ?_
  refine O.move rfl rfl ?_
  first | refine O.lenN hE T27 rfl rfl rfl (by first | exact newest_pv | exact newest_gl rfl rfl | trivial) lenC rfl ?_ | refine O.lenLst hE T27 rfl rfl rfl (by first | exact newest_pv | exact newest_gl rfl rfl | trivial) rfl ?_
  first | refine O.cmp rfl rfl rfl (by first | exact decide_eq_true (by omega) | exact decide_eq_false (by omega)) rfl ?_ | refine O.cmp rfl rfl rfl rfl rfl ?_
  refine O.nil ?_
  try refine Run.keep [0, 1, 2, 6, 7, 8, 9, 10, 18, 27, 30, 48] rfl rfl ?_
  repeat (first | refine Run.seq ?_ | refine Run.skip ?_)
  first | refine Run.condT rfl rfl ?_ | refine Run.condF rfl rfl ?_ | refine Run.condT rfl (by assumption) ?_ | refine Run.condF rfl (by assumption) ?_
  refine Run.exit ?_
  repeat (first | refine thenR_exit ?_ | refine roundR_exit ?_ | refine blockR_exit ?_ | refine blockR_pass rfl ?_)
  repeat (first | refine Run.seq ?_ | refine Run.skip ?_ | refine Run.block ?_)
  refine Run.region ?_
  refine O.move rfl rfl ?_
  refine O.assign rfl rfl ?_
  refine O.assign rfl rfl ?_
  refine O.nil ?_
  try refine Run.keep [0, 1, 2, 6, 7, 8, 9, 10, 18, 27, 30, 48] rfl rfl ?_
  refine Run.ret ?_
  exact Ends.of hE (.inr rfl) rfl rfl (SLe.res0 (AVle.tups (.cons (AVle.lst _ _ _ (lstOf_gl rfl (by simp))) (.cons (AVle.of_eq rfl) .nil))) rfl)
end Go.Proofs.YtokjeodlcilfpaaDoor.Vm
