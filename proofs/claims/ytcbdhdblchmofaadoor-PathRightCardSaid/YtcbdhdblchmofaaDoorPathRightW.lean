/- PathRight: what a path proves, and the law's walk. Conditions: the table of steps has 64 words. -/
import Derived.Test.YtcbdhdblchmofaaDoorSlotC
namespace Go.Proofs.YtcbdhdblchmofaaDoor.Vm
open Go Go.RowKit
set_option linter.unusedVariables false
set_option linter.unusedSimpArgs false
attribute [local irreducible] Ops Dr Run digP
variable {g : Nat → Option (List PV)}
theorem fnCheckPath {T : List Int → List Int → List Int} (hT : Feeds g T) {mode : Int} (hm : mode = 1 ∨ mode = 2) {k : Nat} {ss : List Sl} (hk : k ≤ 4) (hl : ss.length = 2 ^ k) (hs : ∀ s ∈ ss, Sok s) {R : Nat → List (List Int)} (hR : Tree g mode k R) (h0 : R 0 = ss.map (leafP (digP T mode))) {i : Nat} {s : Sl} (hi : ss[i]? = some s) :
    FnC (En Tryd.prog g) 35 [.pv (.int .i64 mode), .pv (bys ((R k).getD 0 [])), .pv (.int .i64 ss.length), .pv (.int .i64 i), slA s, .pv (.lst 1 ((sibs R i k).map bys))] (.pv (.int .i64 0)) [] := by
  have hE := EnOk g
  have c1 := fnModesS (g := g) hm
  have c2 := fnPower (g := g) hk
  have hsm := hs s (List.mem_of_getElem? hi)
  have c3 := fnLeaf hT hm hsm
  have hil : i < ss.length := (List.getElem?_eq_some_iff.1 hi).1
  have hL0 : leafP (digP T mode) s = (R 0).getD i [] := by
    rw [h0, List.getD_eq_getElem?_getD, List.getElem?_map, hi]; rfl
  rw [hL0] at c3
  rw [hl] at hil ⊢
  have h16 : 2 ^ k ≤ 16 := Nat.pow_le_pow_right (n := 2) (j := 4) (by decide) (by omega)
  obtain ⟨X, hX⟩ : ∃ X : Nat → Nat, ∀ j, X j = i / 2 ^ j := ⟨fun j => i / 2 ^ j, fun _ => rfl⟩
  have hX0 : X 0 = i := by rw [hX]; simp
  have hXs : ∀ j, X (j + 1) = X j / 2 := fun j => by rw [hX, hX]; exact div_pow
  have hXl : ∀ j, j ≤ k → X j < 2 ^ (k - j) := fun j hj => by rw [hX]; exact div_lt hil hj
  obtain ⟨G, hG⟩ : ∃ G : Nat → List Int, ∀ j, G j = (R j).getD (sib (X j)) [] := ⟨_, fun _ => rfl⟩
  have hsb : sibs R i k = (List.range k).map G := by
    unfold sibs
    refine List.map_congr_left fun j _ => ?_
    rw [hG, hX]
  obtain ⟨P, hP⟩ : ∃ P, sibs R i k = P := ⟨_, rfl⟩
  have hPl : P.length = k := by rw [← hP, hsb]; simp
  have hPm : (P.map bys).length = P.length := by simp
  have hPg : ∀ j, j < k → (P.map bys)[j]? = some (bys (G j)) := fun j hj => by
    rw [← hP, hsb, List.getElem?_map, List.getElem?_map, List.getElem?_range hj]; rfl
  rw [hP]
  obtain ⟨N, hN⟩ : ∃ N : Nat → Nat, ∀ j, N j = 2 ^ (k - j) := ⟨_, fun _ => rfl⟩
  have hN0 : N 0 = 2 ^ k := by rw [hN]; rfl
  have hNs : ∀ j, j < k → N j = 2 * N (j + 1) := fun j hj => by rw [hN, hN]; exact half_pow hj
  have hNp : ∀ j, 1 ≤ N j ∧ N j ≤ 16 := fun j => by
    rw [hN]
    exact ⟨Nat.pow_pos (by decide), Nat.pow_le_pow_right (n := 2) (j := 4) (by decide) (by omega)⟩
  obtain ⟨Dg, hD⟩ : ∃ Dg : Nat → List Int, ∀ j, Dg j = (R j).getD (X j) [] := ⟨_, fun _ => rfl⟩
  have hD0 : (R 0).getD i [] = Dg 0 := by rw [hD, hX0]
  have hDk : (R k).getD 0 [] = Dg k := by
    have := hXl k (Nat.le_refl _)
    rw [Nat.sub_self] at this
    rw [hD, show X k = 0 by omega]
  have c4 := fnBytesEq (g := g) (Dg k)
  rw [hDk]
  rw [hD0] at c3
  rw [← hN0] at c2 hil ⊢
  have hNi := hNp 0
  refine FnC.of Tryd.func35 rfl rfl rfl rfl ?_
  repeat (first | refine Run.seq ?_ | refine Run.skip ?_ | refine Run.block ?_)
  refine Run.region ?_
  refine O.box 10 rfl (by first | rfl | exact cells_ones (by simp [ones_app, ones_ints, ones, AV.one, PV.one])) rfl rfl ?_
  refine O.assign rfl rfl ?_
  refine O.nil ?_
  try refine Run.keep [0, 1, 2, 3, 4, 5, 10, 12, 13, 14, 16, 17, 18, 21, 24, 31, 39, 41, 42, 43, 44, 48, 53, 64, 77] rfl rfl ?_
  repeat (first | refine Run.seq ?_ | refine Run.skip ?_ | refine Run.block ?_)
  refine Run.region ?_
  refine O.move rfl rfl ?_
  refine O.callE c1 rfl (by first | rfl | simp [closed, men3, mens2_app, mens2_ints, mens2, men2, men1, mens1_app, mens1_ints, mens1]) (by first | rfl | simp [d2, ds1_ints, ds1_app, ds1, d1, ds0_app, ds0_ints, ds0, d0]) rfl ?_
  refine O.un rfl rfl rfl rfl rfl ?_
  refine O.nil ?_
  try refine Run.keep [0, 1, 2, 3, 4, 5, 10, 12, 13, 14, 16, 17, 18, 21, 24, 31, 39, 41, 42, 43, 44, 48, 53, 64, 77] rfl rfl ?_
  repeat (first | refine Run.seq ?_ | refine Run.skip ?_)
  first | refine Run.condT rfl rfl ?_ | refine Run.condF rfl rfl ?_ | refine Run.condT rfl (by assumption) ?_ | refine Run.condF rfl (by assumption) ?_
  repeat (first | refine Run.seq ?_ | refine Run.skip ?_ | refine Run.block ?_)
  refine Run.region ?_
  refine O.move rfl rfl ?_
  refine O.callE c2 rfl (by first | rfl | simp [closed, men3, mens2_app, mens2_ints, mens2, men2, men1, mens1_app, mens1_ints, mens1]) (by first | rfl | simp [d2, ds1_ints, ds1_app, ds1, d1, ds0_app, ds0_ints, ds0, d0]) rfl ?_
  refine O.un rfl rfl rfl rfl rfl ?_
  refine O.nil ?_
  try refine Run.keep [0, 1, 2, 3, 4, 5, 10, 12, 13, 14, 16, 17, 18, 21, 24, 31, 39, 41, 42, 43, 44, 48, 53, 64, 77] rfl rfl ?_
  repeat (first | refine Run.seq ?_ | refine Run.skip ?_)
  first | refine Run.condT rfl rfl ?_ | refine Run.condF rfl rfl ?_ | refine Run.condT rfl (by assumption) ?_ | refine Run.condF rfl (by assumption) ?_
  repeat (first | refine Run.seq ?_ | refine Run.skip ?_ | refine Run.block ?_)
  refine Run.region ?_
  refine O.move rfl rfl ?_
  first | refine O.cmp rfl rfl rfl (by first | exact decide_eq_true (by omega) | exact decide_eq_false (by omega)) rfl ?_ | refine O.cmp rfl rfl rfl rfl rfl ?_
  refine O.move rfl rfl ?_
  first | (refine O.yes rfl rfl (by first | rfl | assumption) ?_; refine O.move rfl rfl ?_) | refine O.no rfl rfl rfl rfl ?_
  first | (refine O.yes rfl rfl (by first | rfl | assumption) ?_; refine O.move rfl rfl ?_) | refine O.no rfl rfl rfl rfl ?_
  first | (refine O.yes rfl rfl (by first | rfl | assumption) ?_; first | refine O.cmp rfl rfl rfl (by first | exact decide_eq_true (by omega) | exact decide_eq_false (by omega)) rfl ?_ | refine O.cmp rfl rfl rfl rfl rfl ?_) | refine O.no rfl rfl rfl rfl ?_
  refine O.pick rfl rfl rfl rfl rfl ?_
  refine O.nil ?_
  try refine Run.keep [0, 1, 2, 3, 4, 5, 10, 12, 13, 14, 16, 17, 18, 21, 24, 31, 39, 41, 42, 43, 44, 48, 53, 64, 77] rfl rfl ?_
  repeat (first | refine Run.seq ?_ | refine Run.skip ?_)
  first | refine Run.condT rfl rfl ?_ | refine Run.condF rfl rfl ?_ | refine Run.condT rfl (by assumption) ?_ | refine Run.condF rfl (by assumption) ?_
  repeat (first | refine Run.seq ?_ | refine Run.skip ?_ | refine Run.block ?_)
  refine Run.region ?_
  refine O.move rfl rfl ?_
  refine O.load hE T75 rfl rfl rfl rfl ?_
  refine O.callE c3 rfl (by first | rfl | simp [closed, men3, mens2_app, mens2_ints, mens2, men2, men1, mens1_app, mens1_ints, mens1]) (by first | rfl | simp [d2, ds1_ints, ds1_app, ds1, d1, ds0_app, ds0_ints, ds0, d0]) rfl ?_
  refine O.move rfl rfl ?_
  refine O.extract rfl rfl rfl ?_
  refine O.extract rfl rfl rfl ?_
  refine O.assign rfl rfl ?_
  refine O.assign rfl rfl ?_
  refine O.nil ?_
  try refine Run.keep [0, 1, 2, 3, 4, 5, 10, 12, 13, 14, 16, 17, 18, 21, 24, 31, 39, 41, 42, 43, 44, 48, 53, 64, 77] rfl rfl ?_
  repeat (first | refine Run.seq ?_ | refine Run.skip ?_ | refine Run.block ?_)
  refine Run.region ?_
  refine O.move rfl rfl ?_
  first | refine O.cmp rfl rfl rfl (by first | exact decide_eq_true (by omega) | exact decide_eq_false (by omega)) rfl ?_ | refine O.cmp rfl rfl rfl rfl rfl ?_
  refine O.nil ?_
  try refine Run.keep [0, 1, 2, 3, 4, 5, 10, 12, 13, 14, 16, 17, 18, 21, 24, 31, 39, 41, 42, 43, 44, 48, 53, 64, 77] rfl rfl ?_
  repeat (first | refine Run.seq ?_ | refine Run.skip ?_)
  first | refine Run.condT rfl rfl ?_ | refine Run.condF rfl rfl ?_ | refine Run.condT rfl (by assumption) ?_ | refine Run.condF rfl (by assumption) ?_
  repeat (first | refine Run.seq ?_ | refine Run.skip ?_ | refine Run.block ?_)
  refine Run.region ?_
  refine O.move rfl rfl ?_
  first | refine O.lenN hE T41 rfl rfl rfl (by first | exact newest_pv | exact newest_gl rfl rfl | trivial) lenC rfl ?_ | refine O.lenLst hE T41 rfl rfl rfl (by first | exact newest_pv | exact newest_gl rfl rfl | trivial) rfl ?_
  refine O.move rfl rfl ?_
  refine O.nil ?_
  try refine Run.keep [0, 1, 2, 3, 4, 5, 10, 12, 13, 14, 16, 17, 18, 21, 24, 31, 39, 41, 42, 43, 44, 48, 53, 64, 77] rfl rfl ?_
  repeat (first | refine Run.seq ?_ | refine Run.skip ?_)
  refine Run.block ?_
  refine Run.loopInv (ι := Nat) (fun j => j ≤ k) (fun j => ⟨78, [(0, .pv (.int .i64 mode)), (1, .pv (bys (Dg k))), (2, .pv (.int .i64 (N j))), (3, .pv (.int .i64 (X j))), (12, .pv (.int .i64 0)), (13, .pv (bys (Dg j))), (41, .pv (.lst 1 (P.map bys))), (42, .pv (.int .i64 P.length)), (43, .pv (.int .i64 j))], []⟩) (fun j => k - j) 0 (by omega) ?_ ?_
  ·
    rw [hX0]
    exact SLe.drop (by repeat (first | exact TmIn.nil | refine TmIn.cons rfl ?_)) (by repeat (first | exact BxIn.nil | refine BxIn.cons rfl ?_)) rfl rfl
  rintro j hj ih
  have hNj := hNp j
  have hxl := hXl j hj
  rw [← hN j] at hxl
  by_cases hlt : j < k
  ·
    have hat := hPg j hlt
    have hnn := hNs j hlt
    have hn1 := hNp (j + 1)
    have hq : IntKind.i64.wrap ((X j : Int) / 2) = (X (j + 1) : Int) := by rw [wrap_i64 (by omega) (by omega), hXs]; omega
    have hqn : IntKind.i64.wrap ((N j : Int) / 2) = (N (j + 1) : Int) := by rw [wrap_i64 (by omega) (by omega)]; omega
    have hy := hR.node j hlt (X j / 2) (by rw [← hN (j + 1)]; omega)
    rw [← hXs j, ← hD (j + 1)] at hy
    have hxs := hXs j
    repeat (first | refine Run.seq ?_ | refine Run.skip ?_ | refine Run.block ?_)
    refine Run.region ?_
    first | refine O.cmp rfl rfl rfl (by first | exact decide_eq_true (by omega) | exact decide_eq_false (by omega)) rfl ?_ | refine O.cmp rfl rfl rfl rfl rfl ?_
    refine O.nil ?_
    try refine Run.keep [0, 1, 2, 3, 4, 5, 10, 12, 13, 14, 16, 17, 18, 21, 24, 31, 39, 41, 42, 43, 44, 48, 53, 64, 77] rfl rfl ?_
    repeat (first | refine Run.seq ?_ | refine Run.skip ?_)
    first | refine Run.condT rfl rfl ?_ | refine Run.condF rfl rfl ?_ | refine Run.condT rfl (by assumption) ?_ | refine Run.condF rfl (by assumption) ?_
    repeat (first | refine Run.seq ?_ | refine Run.skip ?_ | refine Run.block ?_)
    refine Run.region ?_
    refine O.index hE T41 rfl T27 rfl rfl newest_pv rfl (by omega) hat rfl rfl rfl ?_
    first | refine O.loadS hE T27 rfl rfl rfl (by rfl) rfl ?_ | refine O.loadE hE T27 rfl rfl (by rfl) rfl ?_ | refine O.load hE T27 rfl rfl rfl rfl ?_
    refine O.assign rfl rfl ?_
    refine O.nil ?_
    try refine Run.keep [0, 1, 2, 3, 4, 5, 10, 12, 13, 14, 16, 17, 18, 21, 24, 31, 39, 41, 42, 43, 44, 48, 53, 64, 77] rfl rfl ?_
    repeat (first | refine Run.seq ?_ | refine Run.skip ?_ | refine Run.block ?_)
    refine Run.region ?_
    refine O.move rfl rfl ?_
    first | refine O.cmp rfl rfl rfl (by first | exact decide_eq_true (by omega) | exact decide_eq_false (by omega)) rfl ?_ | refine O.cmp rfl rfl rfl rfl rfl ?_
    refine O.nil ?_
    try refine Run.keep [0, 1, 2, 3, 4, 5, 10, 12, 13, 14, 16, 17, 18, 21, 24, 31, 39, 41, 42, 43, 44, 48, 53, 64, 77] rfl rfl ?_
    repeat (first | refine Run.seq ?_ | refine Run.skip ?_)
    first | refine Run.condT rfl rfl ?_ | refine Run.condF rfl rfl ?_ | refine Run.condT rfl (by assumption) ?_ | refine Run.condF rfl (by assumption) ?_
    repeat (first | refine Run.seq ?_ | refine Run.skip ?_ | refine Run.block ?_)
    refine Run.region ?_
    refine O.move rfl rfl ?_
    refine O.move rfl rfl ?_
    refine O.assign rfl rfl ?_
    refine O.assign rfl rfl ?_
    refine O.nil ?_
    try refine Run.keep [0, 1, 2, 3, 4, 5, 10, 12, 13, 14, 16, 17, 18, 21, 24, 31, 39, 41, 42, 43, 44, 48, 53, 64, 77] rfl rfl ?_
    by_cases hev : X j % 2 = 0
    ·
      have e1 : (R j).getD (2 * X (j + 1)) [] = Dg j := by rw [hD, hxs, show 2 * (X j / 2) = X j by omega]
      have e2 : (R j).getD (2 * X (j + 1) + 1) [] = G j := by rw [hG, hxs]; unfold sib; rw [if_pos hev, show 2 * (X j / 2) = X j by omega]
      rw [e1, e2] at hy
      repeat (first | refine Run.seq ?_ | refine Run.skip ?_ | refine Run.block ?_)
      refine Run.region ?_
      refine O.move rfl rfl ?_
      first | refine O.remE rfl rfl (by omega) (by omega) rfl ?_ | refine O.rem rfl rfl (by omega) rfl ?_
      first | refine O.cmp rfl rfl rfl (by first | exact decide_eq_true (by omega) | exact decide_eq_false (by omega)) rfl ?_ | refine O.cmp rfl rfl rfl rfl rfl ?_
      refine O.nil ?_
      try refine Run.keep [0, 1, 2, 3, 4, 5, 10, 12, 13, 14, 16, 17, 18, 21, 24, 31, 39, 41, 42, 43, 44, 48, 53, 64, 77] rfl rfl ?_
      repeat (first | refine Run.seq ?_ | refine Run.skip ?_)
      first | refine Run.condT rfl rfl ?_ | refine Run.condF rfl rfl ?_ | refine Run.condT rfl (by assumption) ?_ | refine Run.condF rfl (by assumption) ?_
      repeat (first | refine Run.seq ?_ | refine Run.skip ?_ | refine Run.block ?_)
      refine Run.region ?_
      refine O.move rfl rfl ?_
      refine O.move rfl rfl ?_
      refine O.move rfl rfl ?_
      refine O.callE hy rfl (by first | rfl | simp [closed, men3, mens2_app, mens2_ints, mens2, men2, men1, mens1_app, mens1_ints, mens1]) (by first | rfl | simp [d2, ds1_ints, ds1_app, ds1, d1, ds0_app, ds0_ints, ds0, d0]) rfl ?_
      refine O.move rfl rfl ?_
      refine O.extract rfl rfl rfl ?_
      refine O.extract rfl rfl rfl ?_
      refine O.assign rfl rfl ?_
      refine O.assign rfl rfl ?_
      refine O.nil ?_
      try refine Run.keep [0, 1, 2, 3, 4, 5, 10, 12, 13, 14, 16, 17, 18, 21, 24, 31, 39, 41, 42, 43, 44, 48, 53, 64, 77] rfl rfl ?_
      repeat (first | refine Run.seq ?_ | refine Run.skip ?_ | refine Run.block ?_)
      refine Run.region ?_
      refine O.move rfl rfl ?_
      first | refine O.cmp rfl rfl rfl (by first | exact decide_eq_true (by omega) | exact decide_eq_false (by omega)) rfl ?_ | refine O.cmp rfl rfl rfl rfl rfl ?_
      refine O.nil ?_
      try refine Run.keep [0, 1, 2, 3, 4, 5, 10, 12, 13, 14, 16, 17, 18, 21, 24, 31, 39, 41, 42, 43, 44, 48, 53, 64, 77] rfl rfl ?_
      repeat (first | refine Run.seq ?_ | refine Run.skip ?_)
      first | refine Run.condT rfl rfl ?_ | refine Run.condF rfl rfl ?_ | refine Run.condT rfl (by assumption) ?_ | refine Run.condF rfl (by assumption) ?_
      repeat (first | refine Run.seq ?_ | refine Run.skip ?_ | refine Run.block ?_)
      refine Run.region ?_
      refine O.move rfl rfl ?_
      refine O.quoE rfl rfl (by omega) (by omega) hqn rfl ?_
      refine O.move rfl rfl ?_
      refine O.quoE rfl rfl (by omega) (by omega) hq rfl ?_
      refine O.assign rfl rfl ?_
      refine O.assign rfl rfl ?_
      refine O.nil ?_
      try refine Run.keep [0, 1, 2, 3, 4, 5, 10, 12, 13, 14, 16, 17, 18, 21, 24, 31, 39, 41, 42, 43, 44, 48, 53, 64, 77] rfl rfl ?_
      repeat (first | refine Run.seq ?_ | refine Run.skip ?_ | refine Run.block ?_)
      refine Run.region ?_
      first | refine O.ar rfl rfl rfl (by exact wrap_i64 (by omega) (by omega)) rfl ?_ | refine O.ar rfl rfl rfl rfl rfl ?_
      refine O.move rfl rfl ?_
      refine O.nil ?_
      try refine Run.keep [0, 1, 2, 3, 4, 5, 10, 12, 13, 14, 16, 17, 18, 21, 24, 31, 39, 41, 42, 43, 44, 48, 53, 64, 77] rfl rfl ?_
      refine ih (j + 1) _ ?_ (by omega) (by omega)
      refine SLe.eqv (by repeat (first | exact TmIn.nil | refine TmIn.cons rfl ?_)) (by repeat (first | exact BxIn.nil | refine BxIn.cons rfl ?_)) rfl
    ·
      have e1 : (R j).getD (2 * X (j + 1) + 1) [] = Dg j := by rw [hD, hxs, show 2 * (X j / 2) + 1 = X j by omega]
      have e2 : (R j).getD (2 * X (j + 1)) [] = G j := by rw [hG, hxs]; unfold sib; rw [if_neg hev, show 2 * (X j / 2) = X j - 1 by omega]
      rw [e1, e2] at hy
      repeat (first | refine Run.seq ?_ | refine Run.skip ?_ | refine Run.block ?_)
      refine Run.region ?_
      refine O.move rfl rfl ?_
      first | refine O.remE rfl rfl (by omega) (by omega) rfl ?_ | refine O.rem rfl rfl (by omega) rfl ?_
      first | refine O.cmp rfl rfl rfl (by first | exact decide_eq_true (by omega) | exact decide_eq_false (by omega)) rfl ?_ | refine O.cmp rfl rfl rfl rfl rfl ?_
      refine O.nil ?_
      try refine Run.keep [0, 1, 2, 3, 4, 5, 10, 12, 13, 14, 16, 17, 18, 21, 24, 31, 39, 41, 42, 43, 44, 48, 53, 64, 77] rfl rfl ?_
      repeat (first | refine Run.seq ?_ | refine Run.skip ?_)
      first | refine Run.condT rfl rfl ?_ | refine Run.condF rfl rfl ?_ | refine Run.condT rfl (by assumption) ?_ | refine Run.condF rfl (by assumption) ?_
      repeat (first | refine Run.seq ?_ | refine Run.skip ?_ | refine Run.block ?_)
      refine Run.region ?_
      refine O.move rfl rfl ?_
      refine O.move rfl rfl ?_
      refine O.assign rfl rfl ?_
      refine O.assign rfl rfl ?_
      refine O.nil ?_
      try refine Run.keep [0, 1, 2, 3, 4, 5, 10, 12, 13, 14, 16, 17, 18, 21, 24, 31, 39, 41, 42, 43, 44, 48, 53, 64, 77] rfl rfl ?_
      repeat (first | refine Run.seq ?_ | refine Run.skip ?_ | refine Run.block ?_)
      refine Run.region ?_
      refine O.move rfl rfl ?_
      refine O.move rfl rfl ?_
      refine O.move rfl rfl ?_
      refine O.callE hy rfl (by first | rfl | simp [closed, men3, mens2_app, mens2_ints, mens2, men2, men1, mens1_app, mens1_ints, mens1]) (by first | rfl | simp [d2, ds1_ints, ds1_app, ds1, d1, ds0_app, ds0_ints, ds0, d0]) rfl ?_
      refine O.move rfl rfl ?_
      refine O.extract rfl rfl rfl ?_
      refine O.extract rfl rfl rfl ?_
      refine O.assign rfl rfl ?_
      refine O.assign rfl rfl ?_
      refine O.nil ?_
      try refine Run.keep [0, 1, 2, 3, 4, 5, 10, 12, 13, 14, 16, 17, 18, 21, 24, 31, 39, 41, 42, 43, 44, 48, 53, 64, 77] rfl rfl ?_
      repeat (first | refine Run.seq ?_ | refine Run.skip ?_ | refine Run.block ?_)
      refine Run.region ?_
      refine O.move rfl rfl ?_
      first | refine O.cmp rfl rfl rfl (by first | exact decide_eq_true (by omega) | exact decide_eq_false (by omega)) rfl ?_ | refine O.cmp rfl rfl rfl rfl rfl ?_
      refine O.nil ?_
      try refine Run.keep [0, 1, 2, 3, 4, 5, 10, 12, 13, 14, 16, 17, 18, 21, 24, 31, 39, 41, 42, 43, 44, 48, 53, 64, 77] rfl rfl ?_
      repeat (first | refine Run.seq ?_ | refine Run.skip ?_)
      first | refine Run.condT rfl rfl ?_ | refine Run.condF rfl rfl ?_ | refine Run.condT rfl (by assumption) ?_ | refine Run.condF rfl (by assumption) ?_
      repeat (first | refine Run.seq ?_ | refine Run.skip ?_ | refine Run.block ?_)
      refine Run.region ?_
      refine O.move rfl rfl ?_
      refine O.quoE rfl rfl (by omega) (by omega) hqn rfl ?_
      refine O.move rfl rfl ?_
      refine O.quoE rfl rfl (by omega) (by omega) hq rfl ?_
      refine O.assign rfl rfl ?_
      refine O.assign rfl rfl ?_
      refine O.nil ?_
      try refine Run.keep [0, 1, 2, 3, 4, 5, 10, 12, 13, 14, 16, 17, 18, 21, 24, 31, 39, 41, 42, 43, 44, 48, 53, 64, 77] rfl rfl ?_
      repeat (first | refine Run.seq ?_ | refine Run.skip ?_ | refine Run.block ?_)
      refine Run.region ?_
      first | refine O.ar rfl rfl rfl (by exact wrap_i64 (by omega) (by omega)) rfl ?_ | refine O.ar rfl rfl rfl rfl rfl ?_
      refine O.move rfl rfl ?_
      refine O.nil ?_
      try refine Run.keep [0, 1, 2, 3, 4, 5, 10, 12, 13, 14, 16, 17, 18, 21, 24, 31, 39, 41, 42, 43, 44, 48, 53, 64, 77] rfl rfl ?_
      refine ih (j + 1) _ ?_ (by omega) (by omega)
      refine SLe.eqv (by repeat (first | exact TmIn.nil | refine TmIn.cons rfl ?_)) (by repeat (first | exact BxIn.nil | refine BxIn.cons rfl ?_)) rfl
  obtain rfl : j = k := by omega
  have hNk : N j = 1 := by rw [hN, Nat.sub_self]
  repeat (first | refine Run.seq ?_ | refine Run.skip ?_ | refine Run.block ?_)
  refine Run.region ?_
  first | refine O.cmp rfl rfl rfl (by first | exact decide_eq_true (by omega) | exact decide_eq_false (by omega)) rfl ?_ | refine O.cmp rfl rfl rfl rfl rfl ?_
  refine O.nil ?_
  try refine Run.keep [0, 1, 2, 3, 4, 5, 10, 12, 13, 14, 16, 17, 18, 21, 24, 31, 39, 41, 42, 43, 44, 48, 53, 64, 77] rfl rfl ?_
  repeat (first | refine Run.seq ?_ | refine Run.skip ?_)
  first | refine Run.condT rfl rfl ?_ | refine Run.condF rfl rfl ?_ | refine Run.condT rfl (by assumption) ?_ | refine Run.condF rfl (by assumption) ?_
  refine Run.exit ?_
  repeat (first | refine thenR_exit ?_ | refine roundR_exit ?_ | refine blockR_exit ?_ | refine blockR_pass rfl ?_)
  repeat (first | refine Run.seq ?_ | refine Run.skip ?_ | refine Run.block ?_)
  refine Run.region ?_
  refine O.move rfl rfl ?_
  first | refine O.cmp rfl rfl rfl (by first | exact decide_eq_true (by omega) | exact decide_eq_false (by omega)) rfl ?_ | refine O.cmp rfl rfl rfl rfl rfl ?_
  refine O.move rfl rfl ?_
  first | (refine O.yes rfl rfl (by first | rfl | assumption) ?_; refine O.move rfl rfl ?_) | refine O.no rfl rfl rfl rfl ?_
  first | (refine O.yes rfl rfl (by first | rfl | assumption) ?_; refine O.move rfl rfl ?_) | refine O.no rfl rfl rfl rfl ?_
  first | (refine O.yes rfl rfl (by first | rfl | assumption) ?_; refine O.callE c4 rfl (by first | rfl | simp [closed, men3, mens2_app, mens2_ints, mens2, men2, men1, mens1_app, mens1_ints, mens1]) (by first | rfl | simp [d2, ds1_ints, ds1_app, ds1, d1, ds0_app, ds0_ints, ds0, d0]) rfl ?_) | refine O.no rfl rfl rfl rfl ?_
  first | (refine O.yes rfl rfl (by first | rfl | assumption) ?_; refine O.un rfl rfl rfl rfl rfl ?_) | refine O.no rfl rfl rfl rfl ?_
  refine O.pick rfl rfl rfl rfl rfl ?_
  refine O.nil ?_
  try refine Run.keep [0, 1, 2, 3, 4, 5, 10, 12, 13, 14, 16, 17, 18, 21, 24, 31, 39, 41, 42, 43, 44, 48, 53, 64, 77] rfl rfl ?_
  repeat (first | refine Run.seq ?_ | refine Run.skip ?_)
  first | refine Run.condT rfl rfl ?_ | refine Run.condF rfl rfl ?_ | refine Run.condT rfl (by assumption) ?_ | refine Run.condF rfl (by assumption) ?_
  repeat (first | refine Run.seq ?_ | refine Run.skip ?_ | refine Run.block ?_)
  refine Run.region ?_
  refine O.assign rfl rfl ?_
  refine O.nil ?_
  try refine Run.keep [0, 1, 2, 3, 4, 5, 10, 12, 13, 14, 16, 17, 18, 21, 24, 31, 39, 41, 42, 43, 44, 48, 53, 64, 77] rfl rfl ?_
  (repeat (first | refine Run.seq ?_ | refine Run.skip ?_)); (try refine Run.ret ?_); first | exact Ends.flat hE (.inr rfl) rfl rfl (AVle.of_eq rfl) rfl | exact Ends.flat hE (.inl rfl) rfl rfl (AVle.of_eq rfl) rfl
theorem fnPathRight {T : List Int → List Int → List Int} (hT : Feeds g T) {rs : List Rw} (n0 at0 : Int) (hl : (rs.length : Int) ≤ 9223372036854775807) : FnC (En Tryd.prog g) 10 [.pv (.int .i64 n0), .pv (.lst 4 (rs.map rawE)), .pv (.int .i64 at0)] (.pv (.bool true)) [] := by
  have hE := EnOk g
  have c1 := fnModeOf (g := g) n0
  have hm := mode_ok n0
  generalize 1 + n0 % 2 = mode at *
  obtain ⟨k, ss, hk, hss, hsok, c2⟩ := slotsOf_ex (g := g) (rs := rs) hl
  have h16 : 2 ^ k ≤ 16 := Nat.pow_le_pow_right (n := 2) (j := 4) (by decide) (by omega)
  have hpos : 1 ≤ 2 ^ k := Nat.pow_pos (by decide)
  have c3 := fnPick (g := g) (a := at0) (m := ss.length) (by omega) (by omega)
  have hi : 0 ≤ at0 % (ss.length : Int) ∧ at0 % (ss.length : Int) < ss.length := ⟨Int.emod_nonneg _ (by omega), Int.emod_lt_of_pos _ (by omega)⟩
  generalize at0 % (ss.length : Int) = i0 at *
  obtain ⟨i, rfl⟩ : ∃ i : Nat, i0 = i := ⟨i0.toNat, by omega⟩
  have hil : i < ss.length := by omega
  obtain ⟨s, hsi⟩ : ∃ s, ss[i]? = some s := ⟨_, List.getElem?_eq_getElem hil⟩
  have hR := tree_ok hT hm (k := k) (by omega) (r := ss.map (leafP (digP T mode))) (by simp [hss]) (fun p hp => by obtain ⟨s, hs, rfl⟩ := List.mem_map.1 hp; exact leaf_len (hsok s hs)) (fun p hp => by obtain ⟨s, hs, rfl⟩ := List.mem_map.1 hp; exact digP_pos _ _)
  have c4 := fnRootS hT hm hk hss hsok hR rfl
  have c5 := fnPathS hT hm hk hss hsok hR rfl hil
  have c6 := fnCheckPath hT hm hk hss hsok hR rfl hsi
  have hlast := hR.len k (Nat.le_refl _)
  have hQ : 0 < ((upN (digP T mode) (ss.map (leafP (digP T mode))) k).getD 0 []).length := by
    refine hR.pos k (Nat.le_refl _) _ ?_
    rw [Nat.sub_self] at hlast
    rw [List.getD_eq_getElem?_getD, List.getElem?_eq_getElem (by rw [hlast]; decide)]
    exact List.getElem_mem _
  have hL : (sibs (upN (digP T mode) (ss.map (leafP (digP T mode)))) i k).length = k := by simp [sibs]
  generalize sibs (upN (digP T mode) (ss.map (leafP (digP T mode)))) i k = L at *
  generalize (upN (digP T mode) (ss.map (leafP (digP T mode))) k).getD 0 [] = Q at *
  clear hR hlast
  have hat : (ss.map slE)[(i : Int).toNat]? = some (slE s) := by rw [Int.toNat_natCast, List.getElem?_map, hsi]; rfl
  have hQm : (Q.map (PV.int .u8)).length = Q.length := by simp
  have hLm : (L.map bys).length = L.length := by simp
  have hsm : (ss.map slE).length = ss.length := by simp
  have hV : IntKind.i64.wrap (1 * 2 ^ (min (L.length : Int).toNat IntKind.i64.bits)) = (ss.length : Int) := by
    have h1 : min (L.length : Int).toNat IntKind.i64.bits = k := by rw [Int.toNat_natCast, hL]; show min k 64 = k; omega
    have h2 : ((2 ^ k : Nat) : Int) = 2 ^ k := by simp
    rw [h1, Int.one_mul, hss, ← h2, wrap_i64 (by omega) (by omega)]
  refine FnC.of Tryd.func10 rfl rfl rfl rfl ?_
  repeat (first | refine Run.seq ?_ | refine Run.skip ?_ | refine Run.block ?_)
  refine Run.region ?_
  refine O.assign rfl rfl ?_
  refine O.nil ?_
  try refine Run.keep [0, 1, 2, 6, 7, 8, 9, 10, 11, 12, 13] rfl rfl ?_
  repeat (first | refine Run.seq ?_ | refine Run.skip ?_ | refine Run.block ?_)
  refine Run.region ?_
  refine O.move rfl rfl ?_
  refine O.callE c1 rfl (by first | rfl | simp [closed, men3, mens2_app, mens2_ints, mens2, men2, men1, mens1_app, mens1_ints, mens1]) (by first | rfl | simp [d2, ds1_ints, ds1_app, ds1, d1, ds0_app, ds0_ints, ds0, d0]) rfl ?_
  refine O.move rfl rfl ?_
  refine O.callE c2 rfl (by first | rfl | simp [closed, men3, mens2_app, mens2_ints, mens2, men2, men1, mens1_app, mens1_ints, mens1]) (by first | rfl | simp [d2, ds1_ints, ds1_app, ds1, d1, ds0_app, ds0_ints, ds0, d0]) rfl ?_
  refine O.assign rfl rfl ?_
  refine O.assign rfl rfl ?_
  refine O.nil ?_
  try refine Run.keep [0, 1, 2, 6, 7, 8, 9, 10, 11, 12, 13] rfl rfl ?_
  repeat (first | refine Run.seq ?_ | refine Run.skip ?_ | refine Run.block ?_)
  refine Run.region ?_
  refine O.move rfl rfl ?_
  refine O.move rfl rfl ?_
  first | refine O.lenN hE T68 rfl rfl rfl (by first | exact newest_pv | exact newest_gl rfl rfl | trivial) lenC rfl ?_ | refine O.lenLst hE T68 rfl rfl rfl (by first | exact newest_pv | exact newest_gl rfl rfl | trivial) rfl ?_
  refine O.callE c3 rfl (by first | rfl | simp [closed, men3, mens2_app, mens2_ints, mens2, men2, men1, mens1_app, mens1_ints, mens1]) (by first | rfl | simp [d2, ds1_ints, ds1_app, ds1, d1, ds0_app, ds0_ints, ds0, d0]) rfl ?_
  refine O.assign rfl rfl ?_
  refine O.nil ?_
  try refine Run.keep [0, 1, 2, 6, 7, 8, 9, 10, 11, 12, 13] rfl rfl ?_
  repeat (first | refine Run.seq ?_ | refine Run.skip ?_ | refine Run.block ?_)
  refine Run.region ?_
  refine O.move rfl rfl ?_
  refine O.move rfl rfl ?_
  refine O.callE c4 rfl (by first | rfl | simp [closed, men3, mens2_app, mens2_ints, mens2, men2, men1, mens1_app, mens1_ints, mens1]) (by first | rfl | simp [d2, ds1_ints, ds1_app, ds1, d1, ds0_app, ds0_ints, ds0, d0]) rfl ?_
  refine O.move rfl rfl ?_
  refine O.extract rfl rfl rfl ?_
  refine O.extract rfl rfl rfl ?_
  refine O.assign rfl rfl ?_
  refine O.assign rfl rfl ?_
  refine O.nil ?_
  try refine Run.keep [0, 1, 2, 6, 7, 8, 9, 10, 11, 12, 13] rfl rfl ?_
  repeat (first | refine Run.seq ?_ | refine Run.skip ?_ | refine Run.block ?_)
  refine Run.region ?_
  refine O.move rfl rfl ?_
  refine O.move rfl rfl ?_
  refine O.move rfl rfl ?_
  refine O.callE c5 rfl (by first | rfl | simp [closed, men3, mens2_app, mens2_ints, mens2, men2, men1, mens1_app, mens1_ints, mens1]) (by first | rfl | simp [d2, ds1_ints, ds1_app, ds1, d1, ds0_app, ds0_ints, ds0, d0]) rfl ?_
  refine O.move rfl rfl ?_
  refine O.extract rfl rfl rfl ?_
  refine O.extract rfl rfl rfl ?_
  refine O.assign rfl rfl ?_
  refine O.assign rfl rfl ?_
  refine O.nil ?_
  try refine Run.keep [0, 1, 2, 6, 7, 8, 9, 10, 11, 12, 13] rfl rfl ?_
  repeat (first | refine Run.seq ?_ | refine Run.skip ?_ | refine Run.block ?_)
  refine Run.region ?_
  refine O.move rfl rfl ?_
  first | refine O.cmp rfl rfl rfl (by first | exact decide_eq_true (by omega) | exact decide_eq_false (by omega)) rfl ?_ | refine O.cmp rfl rfl rfl rfl rfl ?_
  refine O.move rfl rfl ?_
  first | (refine O.yes rfl rfl (by first | rfl | assumption) ?_; refine O.move rfl rfl ?_) | refine O.no rfl rfl rfl rfl ?_
  first | (refine O.yes rfl rfl (by first | rfl | assumption) ?_; first | refine O.cmp rfl rfl rfl (by first | exact decide_eq_true (by omega) | exact decide_eq_false (by omega)) rfl ?_ | refine O.cmp rfl rfl rfl rfl rfl ?_) | refine O.no rfl rfl rfl rfl ?_
  refine O.pick rfl rfl rfl rfl rfl ?_
  refine O.move rfl rfl ?_
  first | (refine O.yes rfl rfl (by first | rfl | assumption) ?_; refine O.move rfl rfl ?_) | refine O.no rfl rfl rfl rfl ?_
  first | (refine O.yes rfl rfl (by first | rfl | assumption) ?_; first | refine O.lenN hE T27 rfl rfl rfl (by first | exact newest_pv | exact newest_gl rfl rfl | trivial) lenC rfl ?_ | refine O.lenLst hE T27 rfl rfl rfl (by first | exact newest_pv | exact newest_gl rfl rfl | trivial) rfl ?_) | refine O.no rfl rfl rfl rfl ?_
  first | (refine O.yes rfl rfl (by first | rfl | assumption) ?_; first | refine O.cmp rfl rfl rfl (by first | exact decide_eq_true (by omega) | exact decide_eq_false (by omega)) rfl ?_ | refine O.cmp rfl rfl rfl rfl rfl ?_) | refine O.no rfl rfl rfl rfl ?_
  refine O.pick rfl rfl rfl rfl rfl ?_
  refine O.move rfl rfl ?_
  first | (refine O.yes rfl rfl (by first | rfl | assumption) ?_; refine O.move rfl rfl ?_) | refine O.no rfl rfl rfl rfl ?_
  first | (refine O.yes rfl rfl (by first | rfl | assumption) ?_; first | refine O.lenN hE T41 rfl rfl rfl (by first | exact newest_pv | exact newest_gl rfl rfl | trivial) lenC rfl ?_ | refine O.lenLst hE T41 rfl rfl rfl (by first | exact newest_pv | exact newest_gl rfl rfl | trivial) rfl ?_) | refine O.no rfl rfl rfl rfl ?_
  first | (refine O.yes rfl rfl (by first | rfl | assumption) ?_; refine O.shl rfl rfl (by omega) rfl ?_; (first | rw [hV] | rw [hLm, hV])) | refine O.no rfl rfl rfl rfl ?_
  first | (refine O.yes rfl rfl (by first | rfl | assumption) ?_; refine O.move rfl rfl ?_) | refine O.no rfl rfl rfl rfl ?_
  first | (refine O.yes rfl rfl (by first | rfl | assumption) ?_; first | refine O.lenN hE T68 rfl rfl rfl (by first | exact newest_pv | exact newest_gl rfl rfl | trivial) lenC rfl ?_ | refine O.lenLst hE T68 rfl rfl rfl (by first | exact newest_pv | exact newest_gl rfl rfl | trivial) rfl ?_) | refine O.no rfl rfl rfl rfl ?_
  first | (refine O.yes rfl rfl (by first | rfl | assumption) ?_; first | refine O.cmp rfl rfl rfl (by first | exact decide_eq_true (by omega) | exact decide_eq_false (by omega)) rfl ?_ | refine O.cmp rfl rfl rfl rfl rfl ?_) | refine O.no rfl rfl rfl rfl ?_
  refine O.pick rfl rfl rfl rfl rfl ?_
  refine O.move rfl rfl ?_
  first | (refine O.yes rfl rfl (by first | rfl | assumption) ?_; refine O.move rfl rfl ?_) | refine O.no rfl rfl rfl rfl ?_
  first | (refine O.yes rfl rfl (by first | rfl | assumption) ?_; refine O.move rfl rfl ?_) | refine O.no rfl rfl rfl rfl ?_
  first | (refine O.yes rfl rfl (by first | rfl | assumption) ?_; refine O.move rfl rfl ?_) | refine O.no rfl rfl rfl rfl ?_
  first | (refine O.yes rfl rfl (by first | rfl | assumption) ?_; first | refine O.lenN hE T68 rfl rfl rfl (by first | exact newest_pv | exact newest_gl rfl rfl | trivial) lenC rfl ?_ | refine O.lenLst hE T68 rfl rfl rfl (by first | exact newest_pv | exact newest_gl rfl rfl | trivial) rfl ?_) | refine O.no rfl rfl rfl rfl ?_
  first | (refine O.yes rfl rfl (by first | rfl | assumption) ?_; refine O.move rfl rfl ?_) | refine O.no rfl rfl rfl rfl ?_
  first | (refine O.yes rfl rfl (by first | rfl | assumption) ?_; refine O.move rfl rfl ?_) | refine O.no rfl rfl rfl rfl ?_
  first | (refine O.yes rfl rfl (by first | rfl | assumption) ?_; refine O.move rfl rfl ?_) | refine O.no rfl rfl rfl rfl ?_
  first | (refine O.yes rfl rfl (by first | rfl | assumption) ?_; refine O.index hE T68 rfl T75 rfl rfl newest_pv rfl (by omega) hat rfl rfl rfl ?_) | refine O.no rfl rfl rfl rfl ?_
  first | (refine O.yes rfl rfl (by first | rfl | assumption) ?_; refine O.load hE T75 rfl rfl rfl rfl ?_) | refine O.no rfl rfl rfl rfl ?_
  first | (refine O.yes rfl rfl (by first | rfl | assumption) ?_; refine O.move rfl rfl ?_) | refine O.no rfl rfl rfl rfl ?_
  first | (refine O.yes rfl rfl (by first | rfl | assumption) ?_; refine O.callE c6 rfl (by first | rfl | simp [closed, men3, mens2_app, mens2_ints, mens2, men2, men1, mens1_app, mens1_ints, mens1]) (by first | rfl | simp [d2, ds1_ints, ds1_app, ds1, d1, ds0_app, ds0_ints, ds0, d0]) rfl ?_) | refine O.no rfl rfl rfl rfl ?_
  first | (refine O.yes rfl rfl (by first | rfl | assumption) ?_; first | refine O.cmp rfl rfl rfl (by first | exact decide_eq_true (by omega) | exact decide_eq_false (by omega)) rfl ?_ | refine O.cmp rfl rfl rfl rfl rfl ?_) | refine O.no rfl rfl rfl rfl ?_
  refine O.pick rfl rfl rfl rfl rfl ?_
  refine O.assign rfl rfl ?_
  refine O.nil ?_
  try refine Run.keep [0, 1, 2, 6, 7, 8, 9, 10, 11, 12, 13] rfl rfl ?_
  (repeat (first | refine Run.seq ?_ | refine Run.skip ?_)); (try refine Run.ret ?_); first | exact Ends.flat hE (.inr rfl) rfl rfl (AVle.of_eq rfl) rfl | exact Ends.flat hE (.inl rfl) rfl rfl (AVle.of_eq rfl) rfl
end Go.Proofs.YtcbdhdblchmofaaDoor.Vm
