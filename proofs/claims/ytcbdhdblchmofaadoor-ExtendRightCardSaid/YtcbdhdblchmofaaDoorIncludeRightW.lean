/- IncludeRight: its walk. Conditions: the table of steps has 64 words. -/
import Derived.Test.YtcbdhdblchmofaaDoorRightE
import Derived.Test.YtcbdhdblchmofaaDoorRightM
namespace Go.Proofs.YtcbdhdblchmofaaDoor.Vm
open Go Go.RowKit
set_option linter.unusedVariables false
set_option linter.unusedSimpArgs false
attribute [local irreducible] Ops Dr Run digP rootP pathP entE
variable {g : Nat → Option (List PV)}
theorem pow_mono {a b : Nat} (h : (2 : Int) ^ a < 2 ^ (b + 1)) : (2 : Int) ^ a ≤ 2 ^ b := by
  have h1 : ((2 ^ a : Nat) : Int) < ((2 ^ (b + 1) : Nat) : Int) := by simpa using h
  have h2 : a < b + 1 := (Nat.pow_lt_pow_iff_right (by decide)).1 (Int.ofNat_lt.1 h1)
  have h3 : 2 ^ a ≤ 2 ^ b := Nat.pow_le_pow_right (by decide) (by omega)
  have h4 : ((2 ^ a : Nat) : Int) ≤ ((2 ^ b : Nat) : Int) := Int.ofNat_le.2 h3
  simpa using h4
/-- A path is as long as the halvings. -/
theorem path_few {D : Int → List (List Int) → List Int} {Hf : Int → Int} (hH : Halves g Hf) : ∀ (f : Nat) (m : Nat) (ps : List (List Int)) (i : Int), ps.length ≤ f → 1 ≤ ps.length → ps.length ≤ 64 → (ps.length : Int) ≤ 2 ^ m → (pathP D Hf f ps i).length ≤ m
  | 0, m, ps, i, h, h1, h2, h3 => by omega
  | f + 1, m, ps, i, h, h1, h2, h3 => by
    rw [pathP]
    split
    · simp
    · cases m with
      | zero => simp at h3; omega
      | succ m =>
      obtain ⟨⟨j, kj⟩, k1, k2, k3, _⟩ := hH ps.length (by omega) (by omega)
      have kk : Hf ps.length ≤ 2 ^ m := by rw [kj]; exact pow_mono (by rw [← kj]; omega)
      generalize Hf ps.length = k at *
      have l1 : (ps.take k.toNat).length = k.toNat := by rw [List.length_take]; omega
      have l2 : (ps.drop k.toNat).length = ps.length - k.toNat := by rw [List.length_drop]
      split
      · have := path_few (D := D) hH f m (ps.take k.toNat) i (by omega) (by omega) (by omega) (by omega)
        simp only [List.length_append, List.length_cons, List.length_nil]; omega
      · have := path_few (D := D) hH f m (ps.drop k.toNat) (i - k) (by omega) (by omega) (by omega) (by omega)
        simp only [List.length_append, List.length_cons, List.length_nil]; omega
theorem path_pow {D : Int → List (List Int) → List Int} {Hf : Int → Int} (hH : Halves g Hf) {f : Nat} {ps : List (List Int)} {i : Int} (h : ps.length ≤ f) (h1 : 2 ≤ ps.length) (h2 : ps.length ≤ 64) {n : Nat} (hn : (pathP D Hf f ps i).length = n + 1) : (2 : Int) ^ n < ps.length := by
  obtain ⟨⟨j, kj⟩, k1, k2, k3, _⟩ := hH ps.length (by omega) (by omega)
  have := path_few (D := D) hH f (j + 1) ps i h (by omega) h2 (by rw [Int.pow_succ, ← kj]; omega)
  have hle : (2 : Int) ^ n ≤ 2 ^ j := by
    have h4 : ((2 ^ n : Nat) : Int) ≤ ((2 ^ j : Nat) : Int) := Int.ofNat_le.2 (Nat.pow_le_pow_right (by decide) (by omega))
    simpa using h4
  omega
theorem root_pos {T : List Int → List Int → List Int} {mode : Int} {Hf : Int → Int} (f : Nat) (ps : List (List Int)) : 0 < (rootP (digP T mode) Hf f ps).length := by
  have hd : ∀ tag q, 0 < (digP T mode tag q).length := fun tag q => by
    unfold digP
    split
    · have := frameL_len tag q; have := tot_nn q; omega
    · rw [sumP_len]; decide
  cases f with
  | zero => rw [rootP]; exact hd _ _
  | succ f => rw [rootP]; split <;> (try split) <;> exact hd _ _
theorem fnIncludeRight {T : List Int → List Int → List Int} (hT : Feeds g T) {rs : List Rw} (n0 at0 : Int) (hl : (rs.length : Int) ≤ 9223372036854775807) : FnC (En Tryd.prog g) 11 [.pv (.int .i64 n0), .pv (.lst 4 (rs.map rawE)), .pv (.int .i64 at0)] (.pv (.bool true)) [] := by
  have hE := EnOk g
  obtain ⟨Hf, hH⟩ := halves (g := g)
  have c1 := fnModeOf (g := g) n0
  have hm := mode_ok n0
  generalize 1 + n0 % 2 = mode at *
  have c2 := fnEntriesOf (g := g) hl
  have hel : ∀ p ∈ entsE rs, p.length ≤ 12 := fun p hp => by
    obtain ⟨r, _, rfl⟩ := List.mem_map.1 hp
    exact entE_len r
  have hen : (entsE rs).length ≤ 20 := by unfold entsE; rw [List.length_map, List.length_take]; omega
  generalize entsE rs = es at *
  obtain ⟨ps, hps⟩ : ∃ ps, es ++ [[120]] = ps := ⟨_, rfl⟩
  have hpl : ps.length = es.length + 1 := by rw [← hps]; simp
  have he : Entries ps := ⟨by omega, fun p hp => by
    rw [← hps] at hp
    rcases List.mem_append.1 hp with h | h
    · have := hel p h; omega
    · simp at h; subst h; simp⟩
  have c3 := fnPick (g := g) (a := at0) (m := ps.length) (by omega) (by omega)
  have hi : 0 ≤ at0 % (ps.length : Int) ∧ at0 % (ps.length : Int) < ps.length := ⟨Int.emod_nonneg _ (by omega), Int.emod_lt_of_pos _ (by omega)⟩
  generalize at0 % (ps.length : Int) = i at *
  have c4 := fnRoot hT hH hm (f := ps.length) (Nat.le_refl _) he
  have c5 := fnInclude hT hH hm (f := ps.length) (i := i) (Nat.le_refl _) he hi.1 hi.2
  have c6 := fnCheckInclude hT hH hm (f := ps.length) (i := i) (Nat.le_refl _) he hi.1 hi.2
  have hR := root_pos (T := T) (mode := mode) (Hf := Hf) ps.length ps
  have hL1 := path_len (D := digP T mode) hH ps.length ps i (Nat.le_refl _) (by omega) he.1
  have hL2 : ∀ n : Nat, (pathP (digP T mode) Hf ps.length ps i).length = n + 1 → (2 : Int) ^ n < ps.length := fun n hn => by
    refine path_pow hH (Nat.le_refl _) ?_ he.1 hn
    have h1 := path_few (D := digP T mode) hH ps.length 0 ps i (Nat.le_refl _) (by omega) he.1
    have : ps.length ≠ 1 := fun h => by rw [h] at h1 hn; have := h1 (by decide); omega
    omega
  have hat : (ps.map bys)[i.toNat]? = some (bys (ps.getD i.toNat [])) := ps_at (by omega)
  generalize rootP (digP T mode) Hf ps.length ps = R at *
  generalize pathP (digP T mode) Hf ps.length ps i = L at *
  generalize ps.getD i.toNat [] = P at *
  have hRm : (R.map (PV.int .u8)).length = R.length := by simp
  have hLm : (L.map bys).length = L.length := by simp
  have hpm : (ps.map bys).length = ps.length := by simp
  have h57 : (ps.map bys).length ≤ ps.length := by simp
  obtain ⟨V, hV⟩ : ∃ V : Int, IntKind.i64.wrap (1 * 2 ^ (min ((L.length : Int) - 1).toNat IntKind.i64.bits)) = V := ⟨_, rfl⟩
  have hVl : L.length ≠ 0 → V < ps.length := fun h => by
    obtain ⟨n, hn⟩ : ∃ n, L.length = n + 1 := ⟨L.length - 1, by omega⟩
    have h2 := hL2 n hn
    have h1 : ((L.length : Int) - 1).toNat = n := by omega
    have h3 : min n IntKind.i64.bits = n := by show min n 64 = n; omega
    have h4 : (0 : Int) ≤ 2 ^ n := Int.le_of_lt (Int.pow_pos (by decide))
    rw [h1, h3, Int.one_mul, wrap_i64 (by omega) (by have := he.1; omega)] at hV
    omega
  refine FnC.of Tryd.func11 rfl rfl rfl rfl ?_
  repeat (first | refine Run.seq ?_ | refine Run.skip ?_ | refine Run.block ?_)
  refine Run.region ?_
  refine O.assign rfl rfl ?_
  refine O.nil ?_
  try refine Run.keep [0, 1, 2, 6, 7, 8, 9, 10, 11, 12, 13, 14] rfl rfl ?_
  repeat (first | refine Run.seq ?_ | refine Run.skip ?_ | refine Run.block ?_)
  refine Run.region ?_
  refine O.move rfl rfl ?_
  refine O.callE c1 rfl (by first | rfl | simp [closed, men3, mens2_app, mens2_ints, mens2, men2, men1, mens1_app, mens1_ints, mens1]) (by first | rfl | simp [d2, ds1_ints, ds1_app, ds1, d1, ds0_app, ds0_ints, ds0, d0]) rfl ?_
  refine O.move rfl rfl ?_
  refine O.call (bs' := []) (r' := .gl 57 es.length) (bs2 := [(57, .lst 27 1 (es.map bys))]) 0 c2 (evsO_les _ _ rfl) rfl rfl rfl rfl rfl rfl rfl ?_
  refine O.lit2 hE T27 rfl T5 rfl rfl rfl rfl rfl rfl rfl rfl rfl ?_
  refine O.litV hE T41 rfl T27 rfl rfl rfl rfl rfl rfl rfl ?_
  refine O.appP (r := [[120]]) hE T41 rfl T27 rfl rfl rfl rfl rfl newest_pv rfl rfl rfl rfl (by simp; omega) (by simp [maxLen]; omega) rfl ?_
  refine O.assign rfl rfl ?_
  refine O.assign rfl rfl ?_
  refine O.nil ?_
  try refine Run.keep [0, 1, 2, 6, 7, 8, 9, 10, 11, 12, 13, 14] rfl rfl ?_
  rw [hps]
  refine Run.pre (s1 := ⟨80, [(2, .pv (.int .i64 at0)), (6, .pv (.bool false)), (7, .pv (.int .i64 mode)), (8, .pv (.lst 1 (ps.map bys)))], []⟩) ?_ ?_
  ·
    refine SLe.by rfl ?_ ?_ rfl rfl <;> repeat (first | exact TmLe.nil | exact BxsLe.nil | refine TmLe.cons (AVle.of_eq rfl) ?_ | refine TmLe.cons (AVle.lst _ _ _ (lstOf_gl rfl (by simp))) ?_)
  repeat (first | refine Run.seq ?_ | refine Run.skip ?_ | refine Run.block ?_)
  refine Run.region ?_
  refine O.move rfl rfl ?_
  refine O.move rfl rfl ?_
  first | refine O.lenN hE T41 rfl rfl rfl (by first | exact newest_pv | exact newest_gl rfl rfl | trivial) lenC rfl ?_ | refine O.lenLst hE T41 rfl rfl rfl (by first | exact newest_pv | exact newest_gl rfl rfl | trivial) rfl ?_
  refine O.callE c3 rfl (by first | rfl | simp [closed, men3, mens2_app, mens2_ints, mens2, men2, men1, mens1_app, mens1_ints, mens1]) (by first | rfl | simp [d2, ds1_ints, ds1_app, ds1, d1, ds0_app, ds0_ints, ds0, d0]) rfl ?_
  refine O.assign rfl rfl ?_
  refine O.nil ?_
  try refine Run.keep [0, 1, 2, 6, 7, 8, 9, 10, 11, 12, 13, 14] rfl rfl ?_
  repeat (first | refine Run.seq ?_ | refine Run.skip ?_ | refine Run.block ?_)
  refine Run.region ?_
  refine O.move rfl rfl ?_
  refine O.move rfl rfl ?_
  refine O.callE c4 rfl (by first | rfl | simp [closed, men3, mens2_app, mens2_ints, mens2, men2, men1, mens1_app, mens1_ints, mens1]) (by first | rfl | simp [d2, ds1_ints, ds1_app, ds1, d1, ds0_app, ds0_ints, ds0, d0]) rfl ?_
  refine O.move rfl rfl ?_
  refine O.extract rfl rfl rfl ?_
  refine O.extract rfl rfl rfl ?_
  refine O.assign rfl rfl ?_
  refine O.assign rfl rfl ?_
  refine O.nil ?_
  try refine Run.keep [0, 1, 2, 6, 7, 8, 9, 10, 11, 12, 13, 14] rfl rfl ?_
  repeat (first | refine Run.seq ?_ | refine Run.skip ?_ | refine Run.block ?_)
  refine Run.region ?_
  refine O.move rfl rfl ?_
  refine O.move rfl rfl ?_
  refine O.move rfl rfl ?_
  refine O.callE c5 rfl (by first | rfl | simp [closed, men3, mens2_app, mens2_ints, mens2, men2, men1, mens1_app, mens1_ints, mens1]) (by first | rfl | simp [d2, ds1_ints, ds1_app, ds1, d1, ds0_app, ds0_ints, ds0, d0]) rfl ?_
  refine O.move rfl rfl ?_
  refine O.extract rfl rfl rfl ?_
  refine O.extract rfl rfl rfl ?_
  refine O.assign rfl rfl ?_
  refine O.assign rfl rfl ?_
  refine O.nil ?_
  try refine Run.keep [0, 1, 2, 6, 7, 8, 9, 10, 11, 12, 13, 14] rfl rfl ?_
  by_cases h0 : L.length = 0
  ·
    repeat (first | refine Run.seq ?_ | refine Run.skip ?_ | refine Run.block ?_)
    refine Run.region ?_
    refine O.move rfl rfl ?_
    first | refine O.lenN hE T41 rfl rfl rfl (by first | exact newest_pv | exact newest_gl rfl rfl | trivial) lenC rfl ?_ | refine O.lenLst hE T41 rfl rfl rfl (by first | exact newest_pv | exact newest_gl rfl rfl | trivial) rfl ?_
    first | refine O.cmp rfl rfl rfl (by first | exact decide_eq_true (by omega) | exact decide_eq_false (by omega)) rfl ?_ | refine O.cmp rfl rfl rfl rfl rfl ?_
    refine O.move rfl rfl ?_
    first | (refine O.yes rfl rfl (by first | rfl | assumption) ?_; refine O.move rfl rfl ?_) | refine O.no rfl rfl rfl rfl ?_
    first | (refine O.yes rfl rfl (by first | rfl | assumption) ?_; first | refine O.lenN hE T41 rfl rfl rfl (by first | exact newest_pv | exact newest_gl rfl rfl | trivial) lenC rfl ?_ | refine O.lenLst hE T41 rfl rfl rfl (by first | exact newest_pv | exact newest_gl rfl rfl | trivial) rfl ?_) | refine O.no rfl rfl rfl rfl ?_
    first | (refine O.yes rfl rfl (by first | rfl | assumption) ?_; first | refine O.ar rfl rfl rfl (by exact wrap_i64 (by omega) (by omega)) rfl ?_ | refine O.ar rfl rfl rfl rfl rfl ?_) | refine O.no rfl rfl rfl rfl ?_
    first | (refine O.yes rfl rfl (by first | rfl | assumption) ?_; refine O.shl rfl rfl (by first | omega | (exact wrap_nn rfl _)) rfl ?_) | refine O.no rfl rfl rfl rfl ?_
    first | (refine O.yes rfl rfl (by first | rfl | assumption) ?_; refine O.move rfl rfl ?_) | refine O.no rfl rfl rfl rfl ?_
    first | (refine O.yes rfl rfl (by first | rfl | assumption) ?_; first | refine O.lenN hE T41 rfl rfl rfl (by first | exact newest_pv | exact newest_gl rfl rfl | trivial) lenC rfl ?_ | refine O.lenLst hE T41 rfl rfl rfl (by first | exact newest_pv | exact newest_gl rfl rfl | trivial) rfl ?_) | refine O.no rfl rfl rfl rfl ?_
    first | (refine O.yes rfl rfl (by first | rfl | assumption) ?_; first | refine O.cmp rfl rfl rfl (by first | exact decide_eq_true (by omega) | exact decide_eq_false (by omega)) rfl ?_ | refine O.cmp rfl rfl rfl rfl rfl ?_) | refine O.no rfl rfl rfl rfl ?_
    refine O.pick rfl rfl rfl rfl rfl ?_
    refine O.assign rfl rfl ?_
    refine O.nil ?_
    try refine Run.keep [0, 1, 2, 6, 7, 8, 9, 10, 11, 12, 13, 14] rfl rfl ?_
    repeat (first | refine Run.seq ?_ | refine Run.skip ?_ | refine Run.block ?_)
    refine Run.region ?_
    refine O.move rfl rfl ?_
    first | refine O.cmp rfl rfl rfl (by first | exact decide_eq_true (by omega) | exact decide_eq_false (by omega)) rfl ?_ | refine O.cmp rfl rfl rfl rfl rfl ?_
    refine O.move rfl rfl ?_
    first | (refine O.yes rfl rfl (by first | rfl | assumption) ?_; refine O.move rfl rfl ?_) | refine O.no rfl rfl rfl rfl ?_
    first | (refine O.yes rfl rfl (by first | rfl | assumption) ?_; first | refine O.cmp rfl rfl rfl (by first | exact decide_eq_true (by omega) | exact decide_eq_false (by omega)) rfl ?_ | refine O.cmp rfl rfl rfl rfl rfl ?_) | refine O.no rfl rfl rfl rfl ?_
    refine O.pick rfl rfl rfl rfl rfl ?_
    refine O.move rfl rfl ?_
    first | (refine O.yes rfl rfl (by first | rfl | assumption) ?_; refine O.move rfl rfl ?_) | refine O.no rfl rfl rfl rfl ?_
    first | (refine O.yes rfl rfl (by first | rfl | assumption) ?_; first | refine O.lenN hE T27 rfl rfl rfl (by first | exact newest_pv | exact newest_gl rfl rfl | trivial) lenC rfl ?_ | refine O.lenLst hE T27 rfl rfl rfl (by first | exact newest_pv | exact newest_gl rfl rfl | trivial) rfl ?_) | refine O.no rfl rfl rfl rfl ?_
    first | (refine O.yes rfl rfl (by first | rfl | assumption) ?_; first | refine O.cmp rfl rfl rfl (by first | exact decide_eq_true (by omega) | exact decide_eq_false (by omega)) rfl ?_ | refine O.cmp rfl rfl rfl rfl rfl ?_) | refine O.no rfl rfl rfl rfl ?_
    refine O.pick rfl rfl rfl rfl rfl ?_
    refine O.move rfl rfl ?_
    first | (refine O.yes rfl rfl (by first | rfl | assumption) ?_; refine O.move rfl rfl ?_) | refine O.no rfl rfl rfl rfl ?_
    refine O.pick rfl rfl rfl rfl rfl ?_
    refine O.move rfl rfl ?_
    first | (refine O.yes rfl rfl (by first | rfl | assumption) ?_; refine O.move rfl rfl ?_) | refine O.no rfl rfl rfl rfl ?_
    first | (refine O.yes rfl rfl (by first | rfl | assumption) ?_; refine O.move rfl rfl ?_) | refine O.no rfl rfl rfl rfl ?_
    first | (refine O.yes rfl rfl (by first | rfl | assumption) ?_; refine O.move rfl rfl ?_) | refine O.no rfl rfl rfl rfl ?_
    first | (refine O.yes rfl rfl (by first | rfl | assumption) ?_; first | refine O.lenN hE T41 rfl rfl rfl (by first | exact newest_pv | exact newest_gl rfl rfl | trivial) lenC rfl ?_ | refine O.lenLst hE T41 rfl rfl rfl (by first | exact newest_pv | exact newest_gl rfl rfl | trivial) rfl ?_) | refine O.no rfl rfl rfl rfl ?_
    first | (refine O.yes rfl rfl (by first | rfl | assumption) ?_; refine O.move rfl rfl ?_) | refine O.no rfl rfl rfl rfl ?_
    first | (refine O.yes rfl rfl (by first | rfl | assumption) ?_; refine O.move rfl rfl ?_) | refine O.no rfl rfl rfl rfl ?_
    first | (refine O.yes rfl rfl (by first | rfl | assumption) ?_; refine O.move rfl rfl ?_) | refine O.no rfl rfl rfl rfl ?_
    first | (refine O.yes rfl rfl (by first | rfl | assumption) ?_; refine O.index hE T41 rfl T27 rfl rfl newest_pv rfl (by omega) hat rfl rfl rfl ?_) | refine O.no rfl rfl rfl rfl ?_
    first | (refine O.yes rfl rfl (by first | rfl | assumption) ?_; first | refine O.loadS hE T27 rfl rfl rfl (by rfl) rfl ?_ | refine O.loadE hE T27 rfl rfl (by rfl) rfl ?_ | refine O.load hE T27 rfl rfl rfl rfl ?_) | refine O.no rfl rfl rfl rfl ?_
    first | (refine O.yes rfl rfl (by first | rfl | assumption) ?_; refine O.move rfl rfl ?_) | refine O.no rfl rfl rfl rfl ?_
    first | (refine O.yes rfl rfl (by first | rfl | assumption) ?_; refine O.callE c6 rfl (by first | rfl | simp [closed, men3, mens2_app, mens2_ints, mens2, men2, men1, mens1_app, mens1_ints, mens1]) (by first | rfl | simp [d2, ds1_ints, ds1_app, ds1, d1, ds0_app, ds0_ints, ds0, d0]) rfl ?_) | refine O.no rfl rfl rfl rfl ?_
    first | (refine O.yes rfl rfl (by first | rfl | assumption) ?_; first | refine O.cmp rfl rfl rfl (by first | exact decide_eq_true (by omega) | exact decide_eq_false (by omega)) rfl ?_ | refine O.cmp rfl rfl rfl rfl rfl ?_) | refine O.no rfl rfl rfl rfl ?_
    refine O.pick rfl rfl rfl rfl rfl ?_
    refine O.assign rfl rfl ?_
    refine O.nil ?_
    try refine Run.keep [0, 1, 2, 6, 7, 8, 9, 10, 11, 12, 13, 14] rfl rfl ?_
    (repeat (first | refine Run.seq ?_ | refine Run.skip ?_)); (try refine Run.ret ?_); first | exact Ends.flat hE (.inr rfl) rfl rfl (AVle.of_eq rfl) rfl | exact Ends.flat hE (.inl rfl) rfl rfl (AVle.of_eq rfl) rfl
  ·
    have hV2 := hVl h0
    repeat (first | refine Run.seq ?_ | refine Run.skip ?_ | refine Run.block ?_)
    refine Run.region ?_
    refine O.move rfl rfl ?_
    first | refine O.lenN hE T41 rfl rfl rfl (by first | exact newest_pv | exact newest_gl rfl rfl | trivial) lenC rfl ?_ | refine O.lenLst hE T41 rfl rfl rfl (by first | exact newest_pv | exact newest_gl rfl rfl | trivial) rfl ?_
    first | refine O.cmp rfl rfl rfl (by first | exact decide_eq_true (by omega) | exact decide_eq_false (by omega)) rfl ?_ | refine O.cmp rfl rfl rfl rfl rfl ?_
    refine O.move rfl rfl ?_
    first | (refine O.yes rfl rfl (by first | rfl | assumption) ?_; refine O.move rfl rfl ?_) | refine O.no rfl rfl rfl rfl ?_
    first | (refine O.yes rfl rfl (by first | rfl | assumption) ?_; first | refine O.lenN hE T41 rfl rfl rfl (by first | exact newest_pv | exact newest_gl rfl rfl | trivial) lenC rfl ?_ | refine O.lenLst hE T41 rfl rfl rfl (by first | exact newest_pv | exact newest_gl rfl rfl | trivial) rfl ?_) | refine O.no rfl rfl rfl rfl ?_
    first | (refine O.yes rfl rfl (by first | rfl | assumption) ?_; first | refine O.ar rfl rfl rfl (by exact wrap_i64 (by omega) (by omega)) rfl ?_ | refine O.ar rfl rfl rfl rfl rfl ?_) | refine O.no rfl rfl rfl rfl ?_
    first | (refine O.yes rfl rfl (by first | rfl | assumption) ?_; refine O.shl rfl rfl (by omega) rfl ?_; (first | rw [hV] | rw [hLm, hV])) | refine O.no rfl rfl rfl rfl ?_
    first | (refine O.yes rfl rfl (by first | rfl | assumption) ?_; refine O.move rfl rfl ?_) | refine O.no rfl rfl rfl rfl ?_
    first | (refine O.yes rfl rfl (by first | rfl | assumption) ?_; first | refine O.lenN hE T41 rfl rfl rfl (by first | exact newest_pv | exact newest_gl rfl rfl | trivial) lenC rfl ?_ | refine O.lenLst hE T41 rfl rfl rfl (by first | exact newest_pv | exact newest_gl rfl rfl | trivial) rfl ?_) | refine O.no rfl rfl rfl rfl ?_
    first | (refine O.yes rfl rfl (by first | rfl | assumption) ?_; first | refine O.cmp rfl rfl rfl (by first | exact decide_eq_true (by omega) | exact decide_eq_false (by omega)) rfl ?_ | refine O.cmp rfl rfl rfl rfl rfl ?_) | refine O.no rfl rfl rfl rfl ?_
    refine O.pick rfl rfl rfl rfl rfl ?_
    refine O.assign rfl rfl ?_
    refine O.nil ?_
    try refine Run.keep [0, 1, 2, 6, 7, 8, 9, 10, 11, 12, 13, 14] rfl rfl ?_
    repeat (first | refine Run.seq ?_ | refine Run.skip ?_ | refine Run.block ?_)
    refine Run.region ?_
    refine O.move rfl rfl ?_
    first | refine O.cmp rfl rfl rfl (by first | exact decide_eq_true (by omega) | exact decide_eq_false (by omega)) rfl ?_ | refine O.cmp rfl rfl rfl rfl rfl ?_
    refine O.move rfl rfl ?_
    first | (refine O.yes rfl rfl (by first | rfl | assumption) ?_; refine O.move rfl rfl ?_) | refine O.no rfl rfl rfl rfl ?_
    first | (refine O.yes rfl rfl (by first | rfl | assumption) ?_; first | refine O.cmp rfl rfl rfl (by first | exact decide_eq_true (by omega) | exact decide_eq_false (by omega)) rfl ?_ | refine O.cmp rfl rfl rfl rfl rfl ?_) | refine O.no rfl rfl rfl rfl ?_
    refine O.pick rfl rfl rfl rfl rfl ?_
    refine O.move rfl rfl ?_
    first | (refine O.yes rfl rfl (by first | rfl | assumption) ?_; refine O.move rfl rfl ?_) | refine O.no rfl rfl rfl rfl ?_
    first | (refine O.yes rfl rfl (by first | rfl | assumption) ?_; first | refine O.lenN hE T27 rfl rfl rfl (by first | exact newest_pv | exact newest_gl rfl rfl | trivial) lenC rfl ?_ | refine O.lenLst hE T27 rfl rfl rfl (by first | exact newest_pv | exact newest_gl rfl rfl | trivial) rfl ?_) | refine O.no rfl rfl rfl rfl ?_
    first | (refine O.yes rfl rfl (by first | rfl | assumption) ?_; first | refine O.cmp rfl rfl rfl (by first | exact decide_eq_true (by omega) | exact decide_eq_false (by omega)) rfl ?_ | refine O.cmp rfl rfl rfl rfl rfl ?_) | refine O.no rfl rfl rfl rfl ?_
    refine O.pick rfl rfl rfl rfl rfl ?_
    refine O.move rfl rfl ?_
    first | (refine O.yes rfl rfl (by first | rfl | assumption) ?_; refine O.move rfl rfl ?_) | refine O.no rfl rfl rfl rfl ?_
    refine O.pick rfl rfl rfl rfl rfl ?_
    refine O.move rfl rfl ?_
    first | (refine O.yes rfl rfl (by first | rfl | assumption) ?_; refine O.move rfl rfl ?_) | refine O.no rfl rfl rfl rfl ?_
    first | (refine O.yes rfl rfl (by first | rfl | assumption) ?_; refine O.move rfl rfl ?_) | refine O.no rfl rfl rfl rfl ?_
    first | (refine O.yes rfl rfl (by first | rfl | assumption) ?_; refine O.move rfl rfl ?_) | refine O.no rfl rfl rfl rfl ?_
    first | (refine O.yes rfl rfl (by first | rfl | assumption) ?_; first | refine O.lenN hE T41 rfl rfl rfl (by first | exact newest_pv | exact newest_gl rfl rfl | trivial) lenC rfl ?_ | refine O.lenLst hE T41 rfl rfl rfl (by first | exact newest_pv | exact newest_gl rfl rfl | trivial) rfl ?_) | refine O.no rfl rfl rfl rfl ?_
    first | (refine O.yes rfl rfl (by first | rfl | assumption) ?_; refine O.move rfl rfl ?_) | refine O.no rfl rfl rfl rfl ?_
    first | (refine O.yes rfl rfl (by first | rfl | assumption) ?_; refine O.move rfl rfl ?_) | refine O.no rfl rfl rfl rfl ?_
    first | (refine O.yes rfl rfl (by first | rfl | assumption) ?_; refine O.move rfl rfl ?_) | refine O.no rfl rfl rfl rfl ?_
    first | (refine O.yes rfl rfl (by first | rfl | assumption) ?_; refine O.index hE T41 rfl T27 rfl rfl newest_pv rfl (by omega) hat rfl rfl rfl ?_) | refine O.no rfl rfl rfl rfl ?_
    first | (refine O.yes rfl rfl (by first | rfl | assumption) ?_; first | refine O.loadS hE T27 rfl rfl rfl (by rfl) rfl ?_ | refine O.loadE hE T27 rfl rfl (by rfl) rfl ?_ | refine O.load hE T27 rfl rfl rfl rfl ?_) | refine O.no rfl rfl rfl rfl ?_
    first | (refine O.yes rfl rfl (by first | rfl | assumption) ?_; refine O.move rfl rfl ?_) | refine O.no rfl rfl rfl rfl ?_
    first | (refine O.yes rfl rfl (by first | rfl | assumption) ?_; refine O.callE c6 rfl (by first | rfl | simp [closed, men3, mens2_app, mens2_ints, mens2, men2, men1, mens1_app, mens1_ints, mens1]) (by first | rfl | simp [d2, ds1_ints, ds1_app, ds1, d1, ds0_app, ds0_ints, ds0, d0]) rfl ?_) | refine O.no rfl rfl rfl rfl ?_
    first | (refine O.yes rfl rfl (by first | rfl | assumption) ?_; first | refine O.cmp rfl rfl rfl (by first | exact decide_eq_true (by omega) | exact decide_eq_false (by omega)) rfl ?_ | refine O.cmp rfl rfl rfl rfl rfl ?_) | refine O.no rfl rfl rfl rfl ?_
    refine O.pick rfl rfl rfl rfl rfl ?_
    refine O.assign rfl rfl ?_
    refine O.nil ?_
    try refine Run.keep [0, 1, 2, 6, 7, 8, 9, 10, 11, 12, 13, 14] rfl rfl ?_
    (repeat (first | refine Run.seq ?_ | refine Run.skip ?_)); (try refine Run.ret ?_); first | exact Ends.flat hE (.inr rfl) rfl rfl (AVle.of_eq rfl) rfl | exact Ends.flat hE (.inl rfl) rfl rfl (AVle.of_eq rfl) rfl
end Go.Proofs.YtcbdhdblchmofaaDoor.Vm
