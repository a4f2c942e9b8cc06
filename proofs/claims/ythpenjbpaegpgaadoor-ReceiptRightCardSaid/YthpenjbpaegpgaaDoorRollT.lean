/- Rolls: the root of a list. Conditions: the table of steps has 64 words. -/
import Derived.Test.YthpenjbpaegpgaaDoorRollR
namespace Go.Proofs.YthpenjbpaegpgaaDoor.Vm
open Go Go.RowKit
set_option linter.unusedVariables false
set_option linter.unusedSimpArgs false
attribute [local irreducible] Ops Dr Run digP
variable {g : Nat → Option (List PV)}
def Halves (g : Nat → Option (List PV)) (Hf : Int → Int) : Prop := ∀ n : Int, 2 ≤ n → n ≤ 1000 → (∃ j : Nat, Hf n = 2 ^ j) ∧ 1 ≤ Hf n ∧ Hf n < n ∧ n ≤ 2 * Hf n ∧ FnC (En Tryd.prog g) 28 [.pv (.int .i64 n)] (.pv (.int .i64 (Hf n))) []
theorem halves : ∃ Hf, Halves g Hf := by
  refine ⟨fun n => if h : 2 ≤ n ∧ n ≤ 1000 then Classical.choose (half_ex (g := g) h.1 h.2) else 0, fun n h0 h1 => ?_⟩
  dsimp only
  rw [dif_pos ⟨h0, h1⟩]
  obtain ⟨a, b, c, d⟩ := Classical.choose_spec (half_ex (g := g) h0 h1)
  exact ⟨a, by omega, b, c, d⟩
/-- The root of a list, by what is digested and where it is parted. -/
def rootP (D : Int → List (List Int) → List Int) (Hf : Int → Int) : Nat → List (List Int) → List Int
  | 0, ps => D 4 []
  | f + 1, ps => if ps.length = 0 then D 4 [] else if ps.length = 1 then D 5 (ps.take 1) else D 6 [rootP D Hf f (ps.take (Hf ps.length).toNat), rootP D Hf f (ps.drop (Hf ps.length).toNat)]
theorem digP_len {T : List Int → List Int → List Int} {mode tag : Int} {ps : List (List Int)} {m : Int} (h1 : 32 ≤ m) (h2 : 2 + tot ps ≤ m) : ((digP T mode tag ps).length : Int) ≤ m := by
  unfold digP
  split
  · rw [frameL_len]; exact h2
  · rw [sumP_len]; exact h1
def Entries (ps : List (List Int)) : Prop := ps.length ≤ 64 ∧ ∀ p ∈ ps, p.length ≤ 200
theorem Entries.take {ps : List (List Int)} (h : Entries ps) (k : Nat) : Entries (ps.take k) := ⟨by have := h.1; rw [List.length_take]; omega, fun p hp => h.2 p (List.mem_of_mem_take hp)⟩
theorem Entries.drop {ps : List (List Int)} (h : Entries ps) (k : Nat) : Entries (ps.drop k) := ⟨by have := h.1; rw [List.length_drop]; omega, fun p hp => h.2 p (List.mem_of_mem_drop hp)⟩
theorem tot_one {ps : List (List Int)} (h : Entries ps) : tot (ps.take 1) ≤ 204 := by
  cases ps with
  | nil => simp [tot]
  | cons p ps =>
    have := h.2 p (by simp)
    simp [tot]; omega
theorem root_len {T : List Int → List Int → List Int} {mode : Int} {Hf : Int → Int} (hH : Halves g Hf) : ∀ (f : Nat) (ps : List (List Int)), ps.length ≤ f → Entries ps → ((rootP (digP T mode) Hf f ps).length : Int) ≤ 220 * ps.length + 40 ∧ (1 ≤ ps.length → ((rootP (digP T mode) Hf f ps).length : Int) ≤ 220 * ps.length - 10)
  | 0, ps, h, he => by
    have := digP_len (T := T) (mode := mode) (tag := 4) (ps := []) (m := 40) (by decide) (by decide)
    simp only [rootP]
    exact ⟨by omega, by omega⟩
  | f + 1, ps, h, he => by
    simp only [rootP]
    split
    · have := digP_len (T := T) (mode := mode) (tag := 4) (ps := []) (m := 40) (by decide) (by decide)
      exact ⟨by omega, by omega⟩
    · split
      · have := digP_len (T := T) (mode := mode) (tag := 5) (ps := ps.take 1) (m := 210) (by decide) (by have := tot_one he; omega)
        exact ⟨by omega, by omega⟩
      · obtain ⟨_, k1, k2, k3, _⟩ := hH ps.length (by omega) (by have := he.1; omega)
        generalize Hf ps.length = k at *
        have l1 : (ps.take k.toNat).length = k.toNat := by rw [List.length_take]; omega
        have l2 : (ps.drop k.toNat).length = ps.length - k.toNat := by rw [List.length_drop]
        have e1 := (root_len (T := T) (mode := mode) hH f (ps.take k.toNat) (by omega) (he.take _)).2 (by omega)
        have e2 := (root_len (T := T) (mode := mode) hH f (ps.drop k.toNat) (by omega) (he.drop _)).2 (by omega)
        rw [l1] at e1
        rw [l2] at e2
        have := digP_len (T := T) (mode := mode) (tag := 6) (ps := [rootP (digP T mode) Hf f (ps.take k.toNat), rootP (digP T mode) Hf f (ps.drop k.toNat)]) (m := 220 * ps.length - 10) (by omega) (by simp only [tot]; omega)
        exact ⟨by omega, fun _ => this⟩
theorem fnRollRoot {T : List Int → List Int → List Int} (hT : Feeds g T) {Hf : Int → Int} (hH : Halves g Hf) {mode : Int} (hm : mode = 1 ∨ mode = 2) : ∀ (f : Nat) (ps : List (List Int)), ps.length ≤ f → Entries ps →
    FnC (En Tryd.prog g) 19 [.pv (.int .i64 mode), .pv (.lst 1 (ps.map bys))] (.tup [.pv (bys (rootP (digP T mode) Hf f ps)), .pv (.int .i64 0)]) [] := by
  intro f
  induction f with
  | zero =>
    intro ps hl he
    obtain rfl : ps = [] := List.eq_nil_of_length_eq_zero (by omega)
    have hE := EnOk g
    have c0 := fnDigest hT (mode := mode) (tag := 4) (ps := []) hm (by omega) ⟨by simp, by simp, by decide⟩
    show FnC _ 19 _ (.tup [.pv (bys (digP T mode 4 [])), .pv (.int .i64 0)]) []
    generalize digP T mode 4 [] = R at *
    refine FnC.of Tryd.func19 rfl rfl rfl rfl ?_
    repeat (first | refine Run.seq ?_ | refine Run.skip ?_ | refine Run.block ?_)
    refine Run.region ?_
    refine O.assign rfl rfl ?_
    refine O.assign rfl rfl ?_
    refine O.nil ?_
    try refine Run.keep [0, 1, 4, 5, 6, 7, 8, 9, 11, 12, 18, 39, 50] rfl rfl ?_
    repeat (first | refine Run.seq ?_ | refine Run.skip ?_ | refine Run.block ?_)
    refine Run.region ?_
    refine O.move rfl rfl ?_
    first | refine O.lenN hE T24 rfl rfl rfl (by first | exact newest_pv | exact newest_gl rfl rfl | trivial) lenC rfl ?_ | refine O.lenLst hE T24 rfl rfl rfl (by first | exact newest_pv | exact newest_gl rfl rfl | trivial) rfl ?_
    refine O.nil ?_
    try refine Run.keep [0, 1, 4, 5, 6, 7, 8, 9, 11, 12, 18, 39, 50] rfl rfl ?_
    repeat (first | refine Run.seq ?_ | refine Run.skip ?_ | refine Run.block ?_)
    refine Run.region ?_
    first | refine O.cmp rfl rfl rfl (by first | exact decide_eq_true (by omega) | exact decide_eq_false (by omega)) rfl ?_ | refine O.cmp rfl rfl rfl rfl rfl ?_
    refine O.assign rfl rfl ?_
    refine O.nil ?_
    try refine Run.keep [0, 1, 4, 5, 6, 7, 8, 9, 11, 12, 18, 39, 50] rfl rfl ?_
    repeat (first | refine Run.seq ?_ | refine Run.skip ?_)
    first | refine Run.condT rfl rfl ?_ | refine Run.condF rfl rfl ?_ | refine Run.condT rfl (by assumption) ?_ | refine Run.condF rfl (by assumption) ?_
    repeat (first | refine Run.seq ?_ | refine Run.skip ?_ | refine Run.block ?_)
    refine Run.region ?_
    refine O.move rfl rfl ?_
    refine O.callF c0 (AVles.cons (AVle.of_eq rfl) (.cons (AVle.of_eq rfl) (.cons (AVle.nil 1) .nil))) rfl rfl rfl ?_
    refine O.extract rfl rfl rfl ?_
    refine O.extract rfl rfl rfl ?_
    refine O.assign rfl rfl ?_
    refine O.assign rfl rfl ?_
    refine O.nil ?_
    try refine Run.keep [0, 1, 4, 5, 6, 7, 8, 9, 11, 12, 18, 39, 50] rfl rfl ?_
    repeat (first | refine Run.seq ?_ | refine Run.skip ?_)
    refine Run.ret ?_
    repeat (first | refine thenR_ret ?_ | refine roundR_ret ?_ | refine blockR_ret ?_)
    exact Ends.flat hE (.inr rfl) rfl rfl (AVle.of_eq rfl) rfl
  | succ f ih =>
    intro ps hl he
    have hE := EnOk g
    have hlen : (ps.map bys).length = ps.length := by simp
    by_cases h0 : ps.length = 0
    ·
      have e : rootP (digP T mode) Hf (f + 1) ps = digP T mode 4 [] := by simp only [rootP]; rw [if_pos h0]
      rw [e]
      have c0 := fnDigest hT (mode := mode) (tag := 4) (ps := []) hm (by omega) ⟨by simp, by simp, by decide⟩
      generalize digP T mode 4 [] = R at *
      refine FnC.of Tryd.func19 rfl rfl rfl rfl ?_
      repeat (first | refine Run.seq ?_ | refine Run.skip ?_ | refine Run.block ?_)
      refine Run.region ?_
      refine O.assign rfl rfl ?_
      refine O.assign rfl rfl ?_
      refine O.nil ?_
      try refine Run.keep [0, 1, 4, 5, 6, 7, 8, 9, 11, 12, 18, 39, 50] rfl rfl ?_
      repeat (first | refine Run.seq ?_ | refine Run.skip ?_ | refine Run.block ?_)
      refine Run.region ?_
      refine O.move rfl rfl ?_
      first | refine O.lenN hE T24 rfl rfl rfl (by first | exact newest_pv | exact newest_gl rfl rfl | trivial) lenC rfl ?_ | refine O.lenLst hE T24 rfl rfl rfl (by first | exact newest_pv | exact newest_gl rfl rfl | trivial) rfl ?_
      refine O.nil ?_
      try refine Run.keep [0, 1, 4, 5, 6, 7, 8, 9, 11, 12, 18, 39, 50] rfl rfl ?_
      repeat (first | refine Run.seq ?_ | refine Run.skip ?_ | refine Run.block ?_)
      refine Run.region ?_
      first | refine O.cmp rfl rfl rfl (by first | exact decide_eq_true (by omega) | exact decide_eq_false (by omega)) rfl ?_ | refine O.cmp rfl rfl rfl rfl rfl ?_
      refine O.assign rfl rfl ?_
      refine O.nil ?_
      try refine Run.keep [0, 1, 4, 5, 6, 7, 8, 9, 11, 12, 18, 39, 50] rfl rfl ?_
      repeat (first | refine Run.seq ?_ | refine Run.skip ?_)
      first | refine Run.condT rfl rfl ?_ | refine Run.condF rfl rfl ?_ | refine Run.condT rfl (by assumption) ?_ | refine Run.condF rfl (by assumption) ?_
      repeat (first | refine Run.seq ?_ | refine Run.skip ?_ | refine Run.block ?_)
      refine Run.region ?_
      refine O.move rfl rfl ?_
      refine O.callF c0 (AVles.cons (AVle.of_eq rfl) (.cons (AVle.of_eq rfl) (.cons (AVle.nil 1) .nil))) rfl rfl rfl ?_
      refine O.extract rfl rfl rfl ?_
      refine O.extract rfl rfl rfl ?_
      refine O.assign rfl rfl ?_
      refine O.assign rfl rfl ?_
      refine O.nil ?_
      try refine Run.keep [0, 1, 4, 5, 6, 7, 8, 9, 11, 12, 18, 39, 50] rfl rfl ?_
      repeat (first | refine Run.seq ?_ | refine Run.skip ?_)
      refine Run.ret ?_
      repeat (first | refine thenR_ret ?_ | refine roundR_ret ?_ | refine blockR_ret ?_)
      exact Ends.flat hE (.inr rfl) rfl rfl (AVle.of_eq rfl) rfl
    by_cases h1 : ps.length = 1
    ·
      have e : rootP (digP T mode) Hf (f + 1) ps = digP T mode 5 (ps.take 1) := by simp only [rootP]; rw [if_neg h0, if_pos h1]
      rw [e]
      have c0 := fnDigest hT (mode := mode) (tag := 5) (ps := ps.take 1) hm (by omega) ⟨by rw [List.length_take]; omega, fun p hp => by have := he.2 p (List.mem_of_mem_take hp); omega, by have := tot_one he; omega⟩
      have hy1 : (ps.map bys).take (1 : Int).toNat = (ps.take 1).map bys := List.map_take.symm
      generalize digP T mode 5 (ps.take 1) = R at *
      refine FnC.of Tryd.func19 rfl rfl rfl rfl ?_
      repeat (first | refine Run.seq ?_ | refine Run.skip ?_ | refine Run.block ?_)
      refine Run.region ?_
      refine O.assign rfl rfl ?_
      refine O.assign rfl rfl ?_
      refine O.nil ?_
      try refine Run.keep [0, 1, 4, 5, 6, 7, 8, 9, 11, 12, 18, 39, 50] rfl rfl ?_
      repeat (first | refine Run.seq ?_ | refine Run.skip ?_ | refine Run.block ?_)
      refine Run.region ?_
      refine O.move rfl rfl ?_
      first | refine O.lenN hE T24 rfl rfl rfl (by first | exact newest_pv | exact newest_gl rfl rfl | trivial) lenC rfl ?_ | refine O.lenLst hE T24 rfl rfl rfl (by first | exact newest_pv | exact newest_gl rfl rfl | trivial) rfl ?_
      refine O.nil ?_
      try refine Run.keep [0, 1, 4, 5, 6, 7, 8, 9, 11, 12, 18, 39, 50] rfl rfl ?_
      repeat (first | refine Run.seq ?_ | refine Run.skip ?_ | refine Run.block ?_)
      refine Run.region ?_
      first | refine O.cmp rfl rfl rfl (by first | exact decide_eq_true (by omega) | exact decide_eq_false (by omega)) rfl ?_ | refine O.cmp rfl rfl rfl rfl rfl ?_
      refine O.assign rfl rfl ?_
      refine O.nil ?_
      try refine Run.keep [0, 1, 4, 5, 6, 7, 8, 9, 11, 12, 18, 39, 50] rfl rfl ?_
      repeat (first | refine Run.seq ?_ | refine Run.skip ?_)
      first | refine Run.condT rfl rfl ?_ | refine Run.condF rfl rfl ?_ | refine Run.condT rfl (by assumption) ?_ | refine Run.condF rfl (by assumption) ?_
      repeat (first | refine Run.seq ?_ | refine Run.skip ?_ | refine Run.block ?_)
      refine Run.region ?_
      first | refine O.cmp rfl rfl rfl (by first | exact decide_eq_true (by omega) | exact decide_eq_false (by omega)) rfl ?_ | refine O.cmp rfl rfl rfl rfl rfl ?_
      refine O.assign rfl rfl ?_
      refine O.nil ?_
      try refine Run.keep [0, 1, 4, 5, 6, 7, 8, 9, 11, 12, 18, 39, 50] rfl rfl ?_
      repeat (first | refine Run.seq ?_ | refine Run.skip ?_)
      first | refine Run.condT rfl rfl ?_ | refine Run.condF rfl rfl ?_ | refine Run.condT rfl (by assumption) ?_ | refine Run.condF rfl (by assumption) ?_
      repeat (first | refine Run.seq ?_ | refine Run.skip ?_ | refine Run.block ?_)
      refine Run.region ?_
      refine O.move rfl rfl ?_
      refine O.move rfl rfl ?_
      refine O.slice3 hE T24 rfl T31 rfl rfl newest_pv rfl rfl rfl (by omega) (by show (1 : Int) ≤ (ps.map bys).length; omega) hy1 rfl ?_
      refine O.callE c0 rfl (by first | rfl | simp [closed, men3, mens2_app, mens2_ints, mens2, men2, men1, mens1_app, mens1_ints, mens1]) (by first | rfl | simp [d2, ds1_ints, ds1_app, ds1, d1, ds0_app, ds0_ints, ds0, d0]) rfl ?_
      refine O.extract rfl rfl rfl ?_
      refine O.extract rfl rfl rfl ?_
      refine O.assign rfl rfl ?_
      refine O.assign rfl rfl ?_
      refine O.nil ?_
      try refine Run.keep [0, 1, 4, 5, 6, 7, 8, 9, 11, 12, 18, 39, 50] rfl rfl ?_
      repeat (first | refine Run.seq ?_ | refine Run.skip ?_)
      refine Run.ret ?_
      repeat (first | refine thenR_ret ?_ | refine roundR_ret ?_ | refine blockR_ret ?_)
      exact Ends.flat hE (.inr rfl) rfl rfl (AVle.of_eq rfl) rfl
    obtain ⟨_, k1, k2, k3, ck⟩ := hH ps.length (by omega) (by have := he.1; omega)
    have e : rootP (digP T mode) Hf (f + 1) ps = digP T mode 6 [rootP (digP T mode) Hf f (ps.take (Hf ps.length).toNat), rootP (digP T mode) Hf f (ps.drop (Hf ps.length).toNat)] := by simp only [rootP]; rw [if_neg h0, if_neg h1]
    rw [e]
    generalize Hf ps.length = k at *
    have l1 : (ps.take k.toNat).length = k.toNat := by rw [List.length_take]; omega
    have l2 : (ps.drop k.toNat).length = ps.length - k.toNat := by rw [List.length_drop]
    have ca := ih (ps.take k.toNat) (by omega) (he.take _)
    have cb := ih (ps.drop k.toNat) (by omega) (he.drop _)
    have la := (root_len (T := T) (mode := mode) hH f (ps.take k.toNat) (by omega) (he.take _)).1
    have lb := (root_len (T := T) (mode := mode) hH f (ps.drop k.toNat) (by omega) (he.drop _)).1
    have h64 := he.1
    generalize rootP (digP T mode) Hf f (ps.take k.toNat) = ra at *
    generalize rootP (digP T mode) Hf f (ps.drop k.toNat) = rb at *
    have cp := fnPair hT (mode := mode) (a := ra) (b := rb) hm (by omega) (by omega)
    generalize digP T mode 6 [ra, rb] = R at *
    have ha : (ps.map bys).take k.toNat = (ps.take k.toNat).map bys := List.map_take.symm
    have hb : ((ps.map bys).take ((ps.map bys).length : Int).toNat).drop k.toNat = (ps.drop k.toNat).map bys := by rw [Int.toNat_natCast, List.take_length, List.map_drop]
    refine FnC.of Tryd.func19 rfl rfl rfl rfl ?_
    repeat (first | refine Run.seq ?_ | refine Run.skip ?_ | refine Run.block ?_)
    refine Run.region ?_
    refine O.assign rfl rfl ?_
    refine O.assign rfl rfl ?_
    refine O.nil ?_
    try refine Run.keep [0, 1, 4, 5, 6, 7, 8, 9, 11, 12, 18, 39, 50] rfl rfl ?_
    repeat (first | refine Run.seq ?_ | refine Run.skip ?_ | refine Run.block ?_)
    refine Run.region ?_
    refine O.move rfl rfl ?_
    first | refine O.lenN hE T24 rfl rfl rfl (by first | exact newest_pv | exact newest_gl rfl rfl | trivial) lenC rfl ?_ | refine O.lenLst hE T24 rfl rfl rfl (by first | exact newest_pv | exact newest_gl rfl rfl | trivial) rfl ?_
    refine O.nil ?_
    try refine Run.keep [0, 1, 4, 5, 6, 7, 8, 9, 11, 12, 18, 39, 50] rfl rfl ?_
    repeat (first | refine Run.seq ?_ | refine Run.skip ?_ | refine Run.block ?_)
    refine Run.region ?_
    first | refine O.cmp rfl rfl rfl (by first | exact decide_eq_true (by omega) | exact decide_eq_false (by omega)) rfl ?_ | refine O.cmp rfl rfl rfl rfl rfl ?_
    refine O.assign rfl rfl ?_
    refine O.nil ?_
    try refine Run.keep [0, 1, 4, 5, 6, 7, 8, 9, 11, 12, 18, 39, 50] rfl rfl ?_
    repeat (first | refine Run.seq ?_ | refine Run.skip ?_)
    first | refine Run.condT rfl rfl ?_ | refine Run.condF rfl rfl ?_ | refine Run.condT rfl (by assumption) ?_ | refine Run.condF rfl (by assumption) ?_
    repeat (first | refine Run.seq ?_ | refine Run.skip ?_ | refine Run.block ?_)
    refine Run.region ?_
    first | refine O.cmp rfl rfl rfl (by first | exact decide_eq_true (by omega) | exact decide_eq_false (by omega)) rfl ?_ | refine O.cmp rfl rfl rfl rfl rfl ?_
    refine O.assign rfl rfl ?_
    refine O.nil ?_
    try refine Run.keep [0, 1, 4, 5, 6, 7, 8, 9, 11, 12, 18, 39, 50] rfl rfl ?_
    repeat (first | refine Run.seq ?_ | refine Run.skip ?_)
    first | refine Run.condT rfl rfl ?_ | refine Run.condF rfl rfl ?_ | refine Run.condT rfl (by assumption) ?_ | refine Run.condF rfl (by assumption) ?_
    repeat (first | refine Run.seq ?_ | refine Run.skip ?_ | refine Run.block ?_)
    refine Run.region ?_
    refine O.move rfl rfl ?_
    first | refine O.lenN hE T24 rfl rfl rfl (by first | exact newest_pv | exact newest_gl rfl rfl | trivial) lenC rfl ?_ | refine O.lenLst hE T24 rfl rfl rfl (by first | exact newest_pv | exact newest_gl rfl rfl | trivial) rfl ?_
    refine O.callE ck rfl (by first | rfl | simp [closed, men3, mens2_app, mens2_ints, mens2, men2, men1, mens1_app, mens1_ints, mens1]) (by first | rfl | simp [d2, ds1_ints, ds1_app, ds1, d1, ds0_app, ds0_ints, ds0, d0]) rfl ?_
    refine O.assign rfl rfl ?_
    refine O.nil ?_
    try refine Run.keep [0, 1, 4, 5, 6, 7, 8, 9, 11, 12, 18, 39, 50] rfl rfl ?_
    repeat (first | refine Run.seq ?_ | refine Run.skip ?_ | refine Run.block ?_)
    refine Run.region ?_
    refine O.move rfl rfl ?_
    refine O.move rfl rfl ?_
    refine O.move rfl rfl ?_
    refine O.move rfl rfl ?_
    refine O.slice3 hE T24 rfl T31 rfl rfl newest_pv rfl rfl rfl (by omega) (by show k ≤ ((ps.map bys).length : Int); omega) ha rfl ?_
    refine O.callE ca rfl (by first | rfl | simp [closed, men3, mens2_app, mens2_ints, mens2, men2, men1, mens1_app, mens1_ints, mens1]) (by first | rfl | simp [d2, ds1_ints, ds1_app, ds1, d1, ds0_app, ds0_ints, ds0, d0]) rfl ?_
    refine O.move rfl rfl ?_
    refine O.extract rfl rfl rfl ?_
    refine O.extract rfl rfl rfl ?_
    refine O.assign rfl rfl ?_
    refine O.assign rfl rfl ?_
    refine O.nil ?_
    try refine Run.keep [0, 1, 4, 5, 6, 7, 8, 9, 11, 12, 18, 39, 50] rfl rfl ?_
    repeat (first | refine Run.seq ?_ | refine Run.skip ?_ | refine Run.block ?_)
    refine Run.region ?_
    refine O.move rfl rfl ?_
    first | refine O.cmp rfl rfl rfl (by first | exact decide_eq_true (by omega) | exact decide_eq_false (by omega)) rfl ?_ | refine O.cmp rfl rfl rfl rfl rfl ?_
    refine O.nil ?_
    try refine Run.keep [0, 1, 4, 5, 6, 7, 8, 9, 11, 12, 18, 39, 50] rfl rfl ?_
    repeat (first | refine Run.seq ?_ | refine Run.skip ?_)
    first | refine Run.condT rfl rfl ?_ | refine Run.condF rfl rfl ?_ | refine Run.condT rfl (by assumption) ?_ | refine Run.condF rfl (by assumption) ?_
    repeat (first | refine Run.seq ?_ | refine Run.skip ?_ | refine Run.block ?_)
    refine Run.region ?_
    refine O.move rfl rfl ?_
    refine O.move rfl rfl ?_
    refine O.move rfl rfl ?_
    refine O.slice hE T24 rfl T31 rfl rfl newest_pv rfl rfl rfl (by omega) (by show k ≤ ((ps.map bys).length : Int); omega) (by show ((ps.map bys).length : Int) ≤ _; exact Int.le_refl _) hb rfl ?_
    refine O.callE cb rfl (by first | rfl | simp [closed, men3, mens2_app, mens2_ints, mens2, men2, men1, mens1_app, mens1_ints, mens1]) (by first | rfl | simp [d2, ds1_ints, ds1_app, ds1, d1, ds0_app, ds0_ints, ds0, d0]) rfl ?_
    refine O.move rfl rfl ?_
    refine O.extract rfl rfl rfl ?_
    refine O.extract rfl rfl rfl ?_
    refine O.assign rfl rfl ?_
    refine O.assign rfl rfl ?_
    refine O.nil ?_
    try refine Run.keep [0, 1, 4, 5, 6, 7, 8, 9, 11, 12, 18, 39, 50] rfl rfl ?_
    repeat (first | refine Run.seq ?_ | refine Run.skip ?_ | refine Run.block ?_)
    refine Run.region ?_
    refine O.move rfl rfl ?_
    first | refine O.cmp rfl rfl rfl (by first | exact decide_eq_true (by omega) | exact decide_eq_false (by omega)) rfl ?_ | refine O.cmp rfl rfl rfl rfl rfl ?_
    refine O.nil ?_
    try refine Run.keep [0, 1, 4, 5, 6, 7, 8, 9, 11, 12, 18, 39, 50] rfl rfl ?_
    repeat (first | refine Run.seq ?_ | refine Run.skip ?_)
    first | refine Run.condT rfl rfl ?_ | refine Run.condF rfl rfl ?_ | refine Run.condT rfl (by assumption) ?_ | refine Run.condF rfl (by assumption) ?_
    repeat (first | refine Run.seq ?_ | refine Run.skip ?_ | refine Run.block ?_)
    refine Run.region ?_
    refine O.move rfl rfl ?_
    refine O.move rfl rfl ?_
    refine O.move rfl rfl ?_
    refine O.callE cp rfl (by first | rfl | simp [closed, men3, mens2_app, mens2_ints, mens2, men2, men1, mens1_app, mens1_ints, mens1]) (by first | rfl | simp [d2, ds1_ints, ds1_app, ds1, d1, ds0_app, ds0_ints, ds0, d0]) rfl ?_
    refine O.extract rfl rfl rfl ?_
    refine O.extract rfl rfl rfl ?_
    refine O.assign rfl rfl ?_
    refine O.assign rfl rfl ?_
    refine O.nil ?_
    try refine Run.keep [0, 1, 4, 5, 6, 7, 8, 9, 11, 12, 18, 39, 50] rfl rfl ?_
    (repeat (first | refine Run.seq ?_ | refine Run.skip ?_)); (try refine Run.ret ?_); first | exact Ends.flat hE (.inr rfl) rfl rfl (AVle.of_eq rfl) rfl | exact Ends.flat hE (.inl rfl) rfl rfl (AVle.of_eq rfl) rfl
end Go.Proofs.YthpenjbpaegpgaaDoor.Vm
