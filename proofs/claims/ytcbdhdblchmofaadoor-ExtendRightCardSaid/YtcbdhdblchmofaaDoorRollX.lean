/- Rolls: what a proof that a list began so comes to: roots, CheckExtend. Conditions: the table of steps has 64 words. -/
import Derived.Test.YtcbdhdblchmofaaDoorRollE
namespace Go.Proofs.YtcbdhdblchmofaaDoor.Vm
open Go Go.RowKit
set_option linter.unusedVariables false
set_option linter.unusedSimpArgs false
attribute [local irreducible] Ops Dr Run digP
variable {g : Nat → Option (List PV)}
theorem rootP_nil {D : Int → List (List Int) → List Int} {Hf : Int → Int} {f : Nat} {ps : List (List Int)} (h : ps.length = 0) : rootP D Hf (f + 1) ps = D 4 [] := by
  rw [rootP, if_pos h]
theorem rootP_one {D : Int → List (List Int) → List Int} {Hf : Int → Int} {f : Nat} {ps : List (List Int)} (h : ps.length = 1) : rootP D Hf (f + 1) ps = D 5 (ps.take 1) := by
  rw [rootP, if_neg (by omega), if_pos h]
theorem rootP_two {D : Int → List (List Int) → List Int} {Hf : Int → Int} {f : Nat} {ps : List (List Int)} (h : 2 ≤ ps.length) : rootP D Hf (f + 1) ps = D 6 [rootP D Hf f (ps.take (Hf ps.length).toNat), rootP D Hf f (ps.drop (Hf ps.length).toNat)] := by
  rw [rootP, if_neg (by omega), if_neg (by omega)]
theorem rootP_fuel {D : Int → List (List Int) → List Int} {Hf : Int → Int} (hH : Halves g Hf) : ∀ (f : Nat) (ps : List (List Int)), ps.length ≤ f → ps.length ≤ 64 → rootP D Hf (f + 1) ps = rootP D Hf f ps
  | 0, ps, h, h1 => by
    obtain rfl : ps = [] := List.eq_nil_of_length_eq_zero (by omega)
    rfl
  | f + 1, ps, h, h1 => by
    by_cases h2 : ps.length = 0
    · rw [rootP_nil h2, rootP_nil h2]
    by_cases h3 : ps.length = 1
    · rw [rootP_one h3, rootP_one h3]
    obtain ⟨_, k1, k2, k3, _⟩ := hH ps.length (by omega) (by omega)
    have l1 : (ps.take (Hf ps.length).toNat).length = (Hf ps.length).toNat := by rw [List.length_take]; omega
    have l2 : (ps.drop (Hf ps.length).toNat).length = ps.length - (Hf ps.length).toNat := by rw [List.length_drop]
    have e1 := rootP_fuel (D := D) hH f (ps.take (Hf ps.length).toNat) (by omega) (by omega)
    have e2 := rootP_fuel (D := D) hH f (ps.drop (Hf ps.length).toNat) (by omega) (by omega)
    rw [rootP_two (f := f + 1) (ps := ps) (by omega), rootP_two (f := f) (ps := ps) (by omega), e1, e2]
theorem pow_same {a b : Nat} {m : Int} (h1 : (2 : Int) ^ a < m) (h2 : m ≤ 2 * 2 ^ a) (h3 : (2 : Int) ^ b < m) (h4 : m ≤ 2 * 2 ^ b) : a = b := by
  have key : ∀ x y : Nat, (2 : Int) ^ x < m → m ≤ 2 * 2 ^ y → x ≤ y := by
    intro x y hx hy
    have h0 : (2 : Int) ^ x < 2 ^ (y + 1) := by rw [Int.pow_succ]; omega
    have h1 : ((2 ^ x : Nat) : Int) < ((2 ^ (y + 1) : Nat) : Int) := by simpa using h0
    have h2 : x < y + 1 := (Nat.pow_lt_pow_iff_right (by decide)).1 (Int.ofNat_lt.1 h1)
    omega
  have := key a b h1 h4
  have := key b a h3 h2
  omega
/-- The half of a beginning that is longer than the half is the half. -/
theorem half_same {Hf : Int → Int} (hH : Halves g Hf) {m n : Int} (h0 : 2 ≤ n) (h1 : n ≤ 1000) (h2 : Hf n < m) (h3 : m ≤ n) : Hf m = Hf n := by
  obtain ⟨⟨j, kj⟩, k1, k2, k3, _⟩ := hH n h0 h1
  obtain ⟨⟨i, ki⟩, l1, l2, l3, _⟩ := hH m (by omega) (by omega)
  rw [kj] at h2 k2 k3 ⊢
  rw [ki] at l2 l3 ⊢
  have := pow_same (m := m) (a := i) (b := j) l2 l3 h2 (by omega)
  rw [this]
theorem fnRoots {T : List Int → List Int → List Int} (hT : Feeds g T) {Hf : Int → Int} (hH : Halves g Hf) {mode : Int} (hm : mode = 1 ∨ mode = 2) : ∀ (f : Nat) (ps : List (List Int)) (m : Int) (kn : Bool) (old : List Int), ps.length ≤ f → Entries ps → 1 ≤ m → m ≤ ps.length → (kn = true → old = rootP (digP T mode) Hf f (ps.take m.toNat)) →
    FnC (En Tryd.prog g) 70 [.agg [.pv (.int .i64 mode), .pv (bys old)], .pv (.int .i64 m), .pv (.int .i64 ps.length), .pv (.bool kn), .pv (.lst 1 ((extP (digP T mode) Hf f ps m kn).map bys))] (.tup [.pv (bys (rootP (digP T mode) Hf f (ps.take m.toNat))), .pv (bys (rootP (digP T mode) Hf f ps)), .pv (.bool true)]) [] := by
  intro f
  induction f with
  | zero => intro ps m kn old hl he h0 h1; omega
  | succ f ih =>
    intro ps m kn old hl he h0 h1 hold
    have hE := EnOk g
    by_cases hn1 : m = ps.length
    ·
      have ht : ps.take m.toNat = ps := by rw [hn1, Int.toNat_natCast, List.take_length]
      rw [ht] at hold ⊢
      cases kn with
      | true =>
        have e2 : extP (digP T mode) Hf (f + 1) ps m true = [] := by simp only [extP]; rw [if_pos hn1, if_pos trivial]
        rw [e2, ← hold rfl]
        obtain ⟨N, hN⟩ : ∃ N : Int, (ps.length : Int) = N := ⟨_, rfl⟩
        rw [hN] at hn1 ⊢
        refine FnC.of Tryd.func70 rfl rfl rfl rfl ?_
        repeat (first | refine Run.seq ?_ | refine Run.skip ?_ | refine Run.block ?_)
        refine Run.region ?_
        refine O.box 5 rfl (by first | rfl | exact cells_ones (by simp [ones_app, ones_ints, ones, AV.one, PV.one])) rfl rfl ?_
        refine O.assign rfl rfl ?_
        refine O.assign rfl rfl ?_
        refine O.assign rfl rfl ?_
        refine O.nil ?_
        try refine Run.keep [0, 1, 2, 3, 4, 5, 10, 11, 12, 13, 14, 15, 16, 17, 18, 19, 20, 23, 24, 34, 43, 51, 65, 97] rfl rfl ?_
        repeat (first | refine Run.seq ?_ | refine Run.skip ?_ | refine Run.block ?_)
        refine Run.region ?_
        refine O.move rfl rfl ?_
        refine O.move rfl rfl ?_
        first | refine O.cmp rfl rfl rfl (by first | exact decide_eq_true (by omega) | exact decide_eq_false (by omega)) rfl ?_ | refine O.cmp rfl rfl rfl rfl rfl ?_
        refine O.nil ?_
        try refine Run.keep [0, 1, 2, 3, 4, 5, 10, 11, 12, 13, 14, 15, 16, 17, 18, 19, 20, 23, 24, 34, 43, 51, 65, 97] rfl rfl ?_
        repeat (first | refine Run.seq ?_ | refine Run.skip ?_)
        first | refine Run.condT rfl rfl ?_ | refine Run.condF rfl rfl ?_ | refine Run.condT rfl (by assumption) ?_ | refine Run.condF rfl (by assumption) ?_
        repeat (first | refine Run.seq ?_ | refine Run.skip ?_ | refine Run.block ?_)
        refine Run.region ?_
        refine O.move rfl rfl ?_
        refine O.nil ?_
        try refine Run.keep [0, 1, 2, 3, 4, 5, 10, 11, 12, 13, 14, 15, 16, 17, 18, 19, 20, 23, 24, 34, 43, 51, 65, 97] rfl rfl ?_
        repeat (first | refine Run.seq ?_ | refine Run.skip ?_)
        first | refine Run.condT rfl rfl ?_ | refine Run.condF rfl rfl ?_ | refine Run.condT rfl (by assumption) ?_ | refine Run.condF rfl (by assumption) ?_
        repeat (first | refine Run.seq ?_ | refine Run.skip ?_ | refine Run.block ?_)
        refine Run.draw mixed rfl ?_
        refine D.field hE L105 rfl rfl rfl rfl ?_
        first | refine D.loadS hE T27 rfl rfl rfl (by rfl) rfl ?_ | refine D.loadE hE T27 rfl rfl (by rfl) rfl ?_ | refine D.load hE T27 rfl rfl rfl rfl ?_
        refine D.field hE L105 rfl rfl rfl rfl ?_
        first | refine D.loadS hE T27 rfl rfl rfl (by rfl) rfl ?_ | refine D.loadE hE T27 rfl rfl (by rfl) rfl ?_ | refine D.load hE T27 rfl rfl rfl rfl ?_
        refine D.move rfl rfl ?_
        refine D.lenLst hE T41 rfl rfl rfl (by first | exact newest_pv | exact newest_gl rfl rfl | trivial) rfl ?_
        first | refine D.cmp rfl rfl rfl (by first | exact decide_eq_true (by omega) | exact decide_eq_false (by omega)) rfl ?_ | refine D.cmp rfl rfl rfl rfl rfl ?_
        refine D.assign rfl rfl ?_
        refine D.assign rfl rfl ?_
        refine D.assign rfl rfl ?_
        refine Dr.nil ?_
        refine ⟨rfl, ?_⟩
        try refine Run.keep [0, 1, 2, 3, 4, 5, 10, 11, 12, 13, 14, 15, 16, 17, 18, 19, 20, 23, 24, 34, 43, 51, 65, 97] rfl rfl ?_
        (repeat (first | refine Run.seq ?_ | refine Run.skip ?_)); (try refine Run.ret ?_); first | exact Ends.flat hE (.inr rfl) rfl rfl (AVle.of_eq rfl) rfl | exact Ends.flat hE (.inl rfl) rfl rfl (AVle.of_eq rfl) rfl
      | false =>
        have e2 : extP (digP T mode) Hf (f + 1) ps m false = [rootP (digP T mode) Hf (f + 1) ps] := by simp only [extP]; rw [if_pos hn1]; rfl
        rw [e2]
        generalize rootP (digP T mode) Hf (f + 1) ps = rb at *
        obtain ⟨N, hN⟩ : ∃ N : Int, (ps.length : Int) = N := ⟨_, rfl⟩
        rw [hN] at hn1 ⊢
        refine FnC.of Tryd.func70 rfl rfl rfl rfl ?_
        repeat (first | refine Run.seq ?_ | refine Run.skip ?_ | refine Run.block ?_)
        refine Run.region ?_
        refine O.box 5 rfl (by first | rfl | exact cells_ones (by simp [ones_app, ones_ints, ones, AV.one, PV.one])) rfl rfl ?_
        refine O.assign rfl rfl ?_
        refine O.assign rfl rfl ?_
        refine O.assign rfl rfl ?_
        refine O.nil ?_
        try refine Run.keep [0, 1, 2, 3, 4, 5, 10, 11, 12, 13, 14, 15, 16, 17, 18, 19, 20, 23, 24, 34, 43, 51, 65, 97] rfl rfl ?_
        repeat (first | refine Run.seq ?_ | refine Run.skip ?_ | refine Run.block ?_)
        refine Run.region ?_
        refine O.move rfl rfl ?_
        refine O.move rfl rfl ?_
        first | refine O.cmp rfl rfl rfl (by first | exact decide_eq_true (by omega) | exact decide_eq_false (by omega)) rfl ?_ | refine O.cmp rfl rfl rfl rfl rfl ?_
        refine O.nil ?_
        try refine Run.keep [0, 1, 2, 3, 4, 5, 10, 11, 12, 13, 14, 15, 16, 17, 18, 19, 20, 23, 24, 34, 43, 51, 65, 97] rfl rfl ?_
        repeat (first | refine Run.seq ?_ | refine Run.skip ?_)
        first | refine Run.condT rfl rfl ?_ | refine Run.condF rfl rfl ?_ | refine Run.condT rfl (by assumption) ?_ | refine Run.condF rfl (by assumption) ?_
        repeat (first | refine Run.seq ?_ | refine Run.skip ?_ | refine Run.block ?_)
        refine Run.region ?_
        refine O.move rfl rfl ?_
        refine O.nil ?_
        try refine Run.keep [0, 1, 2, 3, 4, 5, 10, 11, 12, 13, 14, 15, 16, 17, 18, 19, 20, 23, 24, 34, 43, 51, 65, 97] rfl rfl ?_
        repeat (first | refine Run.seq ?_ | refine Run.skip ?_)
        first | refine Run.condT rfl rfl ?_ | refine Run.condF rfl rfl ?_ | refine Run.condT rfl (by assumption) ?_ | refine Run.condF rfl (by assumption) ?_
        repeat (first | refine Run.seq ?_ | refine Run.skip ?_ | refine Run.block ?_)
        refine Run.region ?_
        refine O.move rfl rfl ?_
        first | refine O.lenN hE T41 rfl rfl rfl (by first | exact newest_pv | exact newest_gl rfl rfl | trivial) lenC rfl ?_ | refine O.lenLst hE T41 rfl rfl rfl (by first | exact newest_pv | exact newest_gl rfl rfl | trivial) rfl ?_
        first | refine O.cmp rfl rfl rfl (by first | exact decide_eq_true (by omega) | exact decide_eq_false (by omega)) rfl ?_ | refine O.cmp rfl rfl rfl rfl rfl ?_
        refine O.nil ?_
        try refine Run.keep [0, 1, 2, 3, 4, 5, 10, 11, 12, 13, 14, 15, 16, 17, 18, 19, 20, 23, 24, 34, 43, 51, 65, 97] rfl rfl ?_
        repeat (first | refine Run.seq ?_ | refine Run.skip ?_)
        first | refine Run.condT rfl rfl ?_ | refine Run.condF rfl rfl ?_ | refine Run.condT rfl (by assumption) ?_ | refine Run.condF rfl (by assumption) ?_
        repeat (first | refine Run.seq ?_ | refine Run.skip ?_ | refine Run.block ?_)
        refine Run.draw mixed rfl ?_
        refine D.move rfl rfl ?_
        refine D.index hE T41 rfl T27 rfl rfl (by first | exact newest_pv | exact newest_gl rfl rfl | trivial) rfl (by omega) (by first | assumption | rfl) rfl rfl rfl ?_
        first | refine D.loadS hE T27 rfl rfl rfl (by rfl) rfl ?_ | refine D.loadE hE T27 rfl rfl (by rfl) rfl ?_ | refine D.load hE T27 rfl rfl rfl rfl ?_
        refine D.move rfl rfl ?_
        refine D.index hE T41 rfl T27 rfl rfl (by first | exact newest_pv | exact newest_gl rfl rfl | trivial) rfl (by omega) (by first | assumption | rfl) rfl rfl rfl ?_
        first | refine D.loadS hE T27 rfl rfl rfl (by rfl) rfl ?_ | refine D.loadE hE T27 rfl rfl (by rfl) rfl ?_ | refine D.load hE T27 rfl rfl rfl rfl ?_
        refine D.assign rfl rfl ?_
        refine D.assign rfl rfl ?_
        refine D.assign rfl rfl ?_
        refine Dr.nil ?_
        refine ⟨rfl, ?_⟩
        try refine Run.keep [0, 1, 2, 3, 4, 5, 10, 11, 12, 13, 14, 15, 16, 17, 18, 19, 20, 23, 24, 34, 43, 51, 65, 97] rfl rfl ?_
        (repeat (first | refine Run.seq ?_ | refine Run.skip ?_)); (try refine Run.ret ?_); first | exact Ends.flat hE (.inr rfl) rfl rfl (AVle.of_eq rfl) rfl | exact Ends.flat hE (.inl rfl) rfl rfl (AVle.of_eq rfl) rfl
    have h2 : 2 ≤ ps.length := by omega
    have hsame : Hf ps.length < m → Hf m = Hf ps.length := fun h => half_same hH (by omega) (by have := he.1; omega) h h1
    obtain ⟨_, k1, k2, k3, ck⟩ := hH ps.length (by omega) (by have := he.1; omega)
    have hpl := ext_le (D := digP T mode) (kn := kn) hH (f := f + 1) hl h0 h1 he.1
    have h64 := he.1
    have e1 := rootP_two (D := digP T mode) (Hf := Hf) (f := f) (ps := ps) h2
    by_cases hik : m ≤ Hf ps.length
    ·
      have e2 : extP (digP T mode) Hf (f + 1) ps m kn = extP (digP T mode) Hf f (ps.take (Hf ps.length).toNat) m kn ++ [rootP (digP T mode) Hf f (ps.drop (Hf ps.length).toNat)] := by simp only [extP]; rw [if_neg hn1, if_pos hik]
      rw [e2] at hpl
      rw [e1, e2]
      generalize Hf ps.length = k at *
      have l1 : (ps.take k.toNat).length = k.toNat := by rw [List.length_take]; omega
      have l2 : (ps.drop k.toNat).length = ps.length - k.toNat := by rw [List.length_drop]
      have l3 : (ps.take m.toNat).length = m.toNat := by rw [List.length_take]; omega
      have la := (root_len (T := T) (mode := mode) hH f (ps.take k.toNat) (by omega) (he.take _)).1
      have lb := (root_len (T := T) (mode := mode) hH f (ps.drop k.toNat) (by omega) (he.drop _)).1
      have hg : (ps.take k.toNat).take m.toNat = ps.take m.toNat := by rw [List.take_take, Nat.min_eq_left (by omega)]
      have hk : ((ps.take k.toNat).length : Int) = k := by omega
      have ef := rootP_fuel (D := digP T mode) hH f (ps.take m.toNat) (by omega) (by omega)
      rw [ef] at hold ⊢
      have ci := ih (ps.take k.toNat) m kn old (by omega) (he.take _) h0 (by omega) (by rw [hg]; exact hold)
      rw [hg, hk] at ci
      generalize rootP (digP T mode) Hf f (ps.take m.toNat) = rm at *
      generalize rootP (digP T mode) Hf f (ps.take k.toNat) = ra at *
      generalize rootP (digP T mode) Hf f (ps.drop k.toNat) = rb at *
      generalize extP (digP T mode) Hf f (ps.take k.toNat) m kn = Pp at *
      have cp := fnPair hT (mode := mode) (a := ra) (b := rb) hm (by omega) (by omega)
      generalize digP T mode 6 [ra, rb] = R at *
      obtain ⟨N, hN⟩ : ∃ N : Int, (ps.length : Int) = N := ⟨_, rfl⟩
      rw [hN] at ck k2 hn1 ⊢
      obtain ⟨L, hL⟩ : ∃ L, Pp ++ [rb] = L := ⟨_, rfl⟩
      rw [hL] at hpl ⊢
      have hLl : L.length = Pp.length + 1 := by rw [← hL]; simp
      have hLm : (L.map bys).length = L.length := by simp
      have hyt : ((L.map bys).take ((L.length : Int) - 1).toNat).drop (0 : Int).toNat = Pp.map bys := by
        have : ((L.length : Int) - 1).toNat = (Pp.map bys).length := by simp; omega
        rw [this, ← hL, List.map_append, List.take_left]
        rfl
      have hyl : (L.map bys)[((L.length : Int) - 1).toNat]? = some (bys rb) := by
        have : ((L.length : Int) - 1).toNat = (Pp.map bys).length := by simp; omega
        rw [this, ← hL, List.map_append, List.getElem?_append_right (Nat.le_refl _), Nat.sub_self]
        rfl
      refine FnC.of Tryd.func70 rfl rfl rfl rfl ?_
      repeat (first | refine Run.seq ?_ | refine Run.skip ?_ | refine Run.block ?_)
      refine Run.region ?_
      refine O.box 5 rfl (by first | rfl | exact cells_ones (by simp [ones_app, ones_ints, ones, AV.one, PV.one])) rfl rfl ?_
      refine O.assign rfl rfl ?_
      refine O.assign rfl rfl ?_
      refine O.assign rfl rfl ?_
      refine O.nil ?_
      try refine Run.keep [0, 1, 2, 3, 4, 5, 10, 11, 12, 13, 14, 15, 16, 17, 18, 19, 20, 23, 24, 34, 43, 51, 65, 97] rfl rfl ?_
      repeat (first | refine Run.seq ?_ | refine Run.skip ?_ | refine Run.block ?_)
      refine Run.region ?_
      refine O.move rfl rfl ?_
      refine O.move rfl rfl ?_
      first | refine O.cmp rfl rfl rfl (by first | exact decide_eq_true (by omega) | exact decide_eq_false (by omega)) rfl ?_ | refine O.cmp rfl rfl rfl rfl rfl ?_
      refine O.nil ?_
      try refine Run.keep [0, 1, 2, 3, 4, 5, 10, 11, 12, 13, 14, 15, 16, 17, 18, 19, 20, 23, 24, 34, 43, 51, 65, 97] rfl rfl ?_
      repeat (first | refine Run.seq ?_ | refine Run.skip ?_)
      first | refine Run.condT rfl rfl ?_ | refine Run.condF rfl rfl ?_ | refine Run.condT rfl (by assumption) ?_ | refine Run.condF rfl (by assumption) ?_
      repeat (first | refine Run.seq ?_ | refine Run.skip ?_ | refine Run.block ?_)
      refine Run.region ?_
      refine O.move rfl rfl ?_
      first | refine O.lenN hE T41 rfl rfl rfl (by first | exact newest_pv | exact newest_gl rfl rfl | trivial) lenC rfl ?_ | refine O.lenLst hE T41 rfl rfl rfl (by first | exact newest_pv | exact newest_gl rfl rfl | trivial) rfl ?_
      first | refine O.cmp rfl rfl rfl (by first | exact decide_eq_true (by omega) | exact decide_eq_false (by omega)) rfl ?_ | refine O.cmp rfl rfl rfl rfl rfl ?_
      refine O.nil ?_
      try refine Run.keep [0, 1, 2, 3, 4, 5, 10, 11, 12, 13, 14, 15, 16, 17, 18, 19, 20, 23, 24, 34, 43, 51, 65, 97] rfl rfl ?_
      repeat (first | refine Run.seq ?_ | refine Run.skip ?_)
      first | refine Run.condT rfl rfl ?_ | refine Run.condF rfl rfl ?_ | refine Run.condT rfl (by assumption) ?_ | refine Run.condF rfl (by assumption) ?_
      repeat (first | refine Run.seq ?_ | refine Run.skip ?_ | refine Run.block ?_)
      refine Run.region ?_
      refine O.move rfl rfl ?_
      refine O.callE ck rfl (by first | rfl | simp [closed, men3, mens2_app, mens2_ints, mens2, men2, men1, mens1_app, mens1_ints, mens1]) (by first | rfl | simp [d2, ds1_ints, ds1_app, ds1, d1, ds0_app, ds0_ints, ds0, d0]) rfl ?_
      refine O.move rfl rfl ?_
      first | refine O.lenN hE T41 rfl rfl rfl (by first | exact newest_pv | exact newest_gl rfl rfl | trivial) lenC rfl ?_ | refine O.lenLst hE T41 rfl rfl rfl (by first | exact newest_pv | exact newest_gl rfl rfl | trivial) rfl ?_
      first | refine O.ar rfl rfl rfl (by exact wrap_i64 (by omega) (by omega)) rfl ?_ | refine O.ar rfl rfl rfl rfl rfl ?_
      refine O.assign rfl rfl ?_
      refine O.assign rfl rfl ?_
      refine O.nil ?_
      try refine Run.keep [0, 1, 2, 3, 4, 5, 10, 11, 12, 13, 14, 15, 16, 17, 18, 19, 20, 23, 24, 34, 43, 51, 65, 97] rfl rfl ?_
      repeat (first | refine Run.seq ?_ | refine Run.skip ?_ | refine Run.block ?_)
      refine Run.region ?_
      refine O.move rfl rfl ?_
      refine O.move rfl rfl ?_
      first | refine O.cmp rfl rfl rfl (by first | exact decide_eq_true (by omega) | exact decide_eq_false (by omega)) rfl ?_ | refine O.cmp rfl rfl rfl rfl rfl ?_
      refine O.nil ?_
      try refine Run.keep [0, 1, 2, 3, 4, 5, 10, 11, 12, 13, 14, 15, 16, 17, 18, 19, 20, 23, 24, 34, 43, 51, 65, 97] rfl rfl ?_
      repeat (first | refine Run.seq ?_ | refine Run.skip ?_)
      first | refine Run.condT rfl rfl ?_ | refine Run.condF rfl rfl ?_ | refine Run.condT rfl (by assumption) ?_ | refine Run.condF rfl (by assumption) ?_
      repeat (first | refine Run.seq ?_ | refine Run.skip ?_ | refine Run.block ?_)
      refine Run.draw mixed rfl ?_
      refine D.load hE T105 rfl rfl rfl rfl ?_
      refine D.move rfl rfl ?_
      refine D.move rfl rfl ?_
      refine D.move rfl rfl ?_
      refine D.move rfl rfl ?_
      refine D.move rfl rfl ?_
      refine D.sliceP hE T41 rfl T27 rfl rfl rfl rfl (by omega) (by omega) (by omega) hyt rfl ?_
      refine D.callE ci rfl (by first | rfl | simp [closed, men3, mens2_app, mens2_ints, mens2, men2, men1, mens1_app, mens1_ints, mens1]) (by first | rfl | simp [d2, ds1_ints, ds1_app, ds1, d1, ds0_app, ds0_ints, ds0, d0]) rfl ?_
      refine D.move rfl rfl ?_
      refine D.extract rfl rfl rfl ?_
      refine D.extract rfl rfl rfl ?_
      refine D.extract rfl rfl rfl ?_
      refine D.assign rfl rfl ?_
      refine D.assign rfl rfl ?_
      refine D.assign rfl rfl ?_
      refine Dr.nil ?_
      refine ⟨rfl, ?_⟩
      try refine Run.keep [0, 1, 2, 3, 4, 5, 10, 11, 12, 13, 14, 15, 16, 17, 18, 19, 20, 23, 24, 34, 43, 51, 65, 97] rfl rfl ?_
      repeat (first | refine Run.seq ?_ | refine Run.skip ?_ | refine Run.block ?_)
      refine Run.region ?_
      refine O.move rfl rfl ?_
      refine O.un rfl rfl rfl rfl rfl ?_
      refine O.nil ?_
      try refine Run.keep [0, 1, 2, 3, 4, 5, 10, 11, 12, 13, 14, 15, 16, 17, 18, 19, 20, 23, 24, 34, 43, 51, 65, 97] rfl rfl ?_
      repeat (first | refine Run.seq ?_ | refine Run.skip ?_)
      first | refine Run.condT rfl rfl ?_ | refine Run.condF rfl rfl ?_ | refine Run.condT rfl (by assumption) ?_ | refine Run.condF rfl (by assumption) ?_
      repeat (first | refine Run.seq ?_ | refine Run.skip ?_ | refine Run.block ?_)
      refine Run.draw mixed rfl ?_
      refine D.field hE L105 rfl rfl rfl rfl ?_
      first | refine D.loadS hE T3 rfl rfl rfl (by rfl) rfl ?_ | refine D.loadE hE T3 rfl rfl (by rfl) rfl ?_ | refine D.load hE T3 rfl rfl rfl rfl ?_
      refine D.move rfl rfl ?_
      refine D.move rfl rfl ?_
      refine D.move rfl rfl ?_
      refine D.index hE T41 rfl T27 rfl rfl newest_pv rfl (by omega) hyl rfl rfl rfl ?_
      first | refine D.loadS hE T27 rfl rfl rfl (by rfl) rfl ?_ | refine D.loadE hE T27 rfl rfl (by rfl) rfl ?_ | refine D.load hE T27 rfl rfl rfl rfl ?_
      refine D.callE cp rfl (by first | rfl | simp [closed, men3, mens2_app, mens2_ints, mens2, men2, men1, mens1_app, mens1_ints, mens1]) (by first | rfl | simp [d2, ds1_ints, ds1_app, ds1, d1, ds0_app, ds0_ints, ds0, d0]) rfl ?_
      refine D.move rfl rfl ?_
      refine D.extract rfl rfl rfl ?_
      refine D.extract rfl rfl rfl ?_
      refine D.assign rfl rfl ?_
      refine D.assign rfl rfl ?_
      refine Dr.nil ?_
      refine ⟨rfl, ?_⟩
      try refine Run.keep [0, 1, 2, 3, 4, 5, 10, 11, 12, 13, 14, 15, 16, 17, 18, 19, 20, 23, 24, 34, 43, 51, 65, 97] rfl rfl ?_
      repeat (first | refine Run.seq ?_ | refine Run.skip ?_ | refine Run.block ?_)
      refine Run.region ?_
      refine O.move rfl rfl ?_
      refine O.move rfl rfl ?_
      refine O.move rfl rfl ?_
      first | refine O.cmp rfl rfl rfl (by first | exact decide_eq_true (by omega) | exact decide_eq_false (by omega)) rfl ?_ | refine O.cmp rfl rfl rfl rfl rfl ?_
      refine O.assign rfl rfl ?_
      refine O.assign rfl rfl ?_
      refine O.assign rfl rfl ?_
      refine O.nil ?_
      try refine Run.keep [0, 1, 2, 3, 4, 5, 10, 11, 12, 13, 14, 15, 16, 17, 18, 19, 20, 23, 24, 34, 43, 51, 65, 97] rfl rfl ?_
      (repeat (first | refine Run.seq ?_ | refine Run.skip ?_)); (try refine Run.ret ?_); first | exact Ends.flat hE (.inr rfl) rfl rfl (AVle.of_eq rfl) rfl | exact Ends.flat hE (.inl rfl) rfl rfl (AVle.of_eq rfl) rfl
    ·
      have e2 : extP (digP T mode) Hf (f + 1) ps m kn = extP (digP T mode) Hf f (ps.drop (Hf ps.length).toNat) (m - Hf ps.length) false ++ [rootP (digP T mode) Hf f (ps.take (Hf ps.length).toNat)] := by simp only [extP]; rw [if_neg hn1, if_neg hik]
      have l3 : (ps.take m.toNat).length = m.toNat := by rw [List.length_take]; omega
      have e3 := rootP_two (D := digP T mode) (Hf := Hf) (f := f) (ps := ps.take m.toNat) (by omega)
      have hs := hsame (by omega)
      have l4 : ((ps.take m.toNat).length : Int) = m := by omega
      rw [l4, hs, List.take_take, Nat.min_eq_left (by omega), List.drop_take] at e3
      rw [e2] at hpl
      rw [e1, e2, e3]
      generalize Hf ps.length = k at *
      have l1 : (ps.take k.toNat).length = k.toNat := by rw [List.length_take]; omega
      have l2 : (ps.drop k.toNat).length = ps.length - k.toNat := by rw [List.length_drop]
      have l5 : ((ps.drop k.toNat).take (m.toNat - k.toNat)).length = m.toNat - k.toNat := by rw [List.length_take]; omega
      have la := (root_len (T := T) (mode := mode) hH f (ps.take k.toNat) (by omega) (he.take _)).1
      have lb := (root_len (T := T) (mode := mode) hH f (ps.drop k.toNat) (by omega) (he.drop _)).1
      have lc := (root_len (T := T) (mode := mode) hH f ((ps.drop k.toNat).take (m.toNat - k.toNat)) (by omega) ((he.drop _).take _)).1
      have hk : ((ps.drop k.toNat).length : Int) = ps.length - k := by omega
      have hmk : (m - k).toNat = m.toNat - k.toNat := by omega
      have ci := ih (ps.drop k.toNat) (m - k) false old (by omega) (he.drop _) (by omega) (by omega) (fun h => by cases h)
      rw [hk, hmk] at ci
      generalize rootP (digP T mode) Hf f ((ps.drop k.toNat).take (m.toNat - k.toNat)) = rm at *
      generalize rootP (digP T mode) Hf f (ps.take k.toNat) = ra at *
      generalize rootP (digP T mode) Hf f (ps.drop k.toNat) = rb at *
      generalize extP (digP T mode) Hf f (ps.drop k.toNat) (m - k) false = Pp at *
      have cp := fnPair hT (mode := mode) (a := ra) (b := rm) hm (by omega) (by omega)
      have cq := fnPair hT (mode := mode) (a := ra) (b := rb) hm (by omega) (by omega)
      generalize digP T mode 6 [ra, rm] = Rm at *
      generalize digP T mode 6 [ra, rb] = R at *
      obtain ⟨N, hN⟩ : ∃ N : Int, (ps.length : Int) = N := ⟨_, rfl⟩
      rw [hN] at ck k2 ci hn1 ⊢
      obtain ⟨L, hL⟩ : ∃ L, Pp ++ [ra] = L := ⟨_, rfl⟩
      rw [hL] at hpl ⊢
      have hLl : L.length = Pp.length + 1 := by rw [← hL]; simp
      have hLm : (L.map bys).length = L.length := by simp
      have hyt : ((L.map bys).take ((L.length : Int) - 1).toNat).drop (0 : Int).toNat = Pp.map bys := by
        have : ((L.length : Int) - 1).toNat = (Pp.map bys).length := by simp; omega
        rw [this, ← hL, List.map_append, List.take_left]
        rfl
      have hyl : (L.map bys)[((L.length : Int) - 1).toNat]? = some (bys ra) := by
        have : ((L.length : Int) - 1).toNat = (Pp.map bys).length := by simp; omega
        rw [this, ← hL, List.map_append, List.getElem?_append_right (Nat.le_refl _), Nat.sub_self]
        rfl
      refine FnC.of Tryd.func70 rfl rfl rfl rfl ?_
      repeat (first | refine Run.seq ?_ | refine Run.skip ?_ | refine Run.block ?_)
      refine Run.region ?_
      refine O.box 5 rfl (by first | rfl | exact cells_ones (by simp [ones_app, ones_ints, ones, AV.one, PV.one])) rfl rfl ?_
      refine O.assign rfl rfl ?_
      refine O.assign rfl rfl ?_
      refine O.assign rfl rfl ?_
      refine O.nil ?_
      try refine Run.keep [0, 1, 2, 3, 4, 5, 10, 11, 12, 13, 14, 15, 16, 17, 18, 19, 20, 23, 24, 34, 43, 51, 65, 97] rfl rfl ?_
      repeat (first | refine Run.seq ?_ | refine Run.skip ?_ | refine Run.block ?_)
      refine Run.region ?_
      refine O.move rfl rfl ?_
      refine O.move rfl rfl ?_
      first | refine O.cmp rfl rfl rfl (by first | exact decide_eq_true (by omega) | exact decide_eq_false (by omega)) rfl ?_ | refine O.cmp rfl rfl rfl rfl rfl ?_
      refine O.nil ?_
      try refine Run.keep [0, 1, 2, 3, 4, 5, 10, 11, 12, 13, 14, 15, 16, 17, 18, 19, 20, 23, 24, 34, 43, 51, 65, 97] rfl rfl ?_
      repeat (first | refine Run.seq ?_ | refine Run.skip ?_)
      first | refine Run.condT rfl rfl ?_ | refine Run.condF rfl rfl ?_ | refine Run.condT rfl (by assumption) ?_ | refine Run.condF rfl (by assumption) ?_
      repeat (first | refine Run.seq ?_ | refine Run.skip ?_ | refine Run.block ?_)
      refine Run.region ?_
      refine O.move rfl rfl ?_
      first | refine O.lenN hE T41 rfl rfl rfl (by first | exact newest_pv | exact newest_gl rfl rfl | trivial) lenC rfl ?_ | refine O.lenLst hE T41 rfl rfl rfl (by first | exact newest_pv | exact newest_gl rfl rfl | trivial) rfl ?_
      first | refine O.cmp rfl rfl rfl (by first | exact decide_eq_true (by omega) | exact decide_eq_false (by omega)) rfl ?_ | refine O.cmp rfl rfl rfl rfl rfl ?_
      refine O.nil ?_
      try refine Run.keep [0, 1, 2, 3, 4, 5, 10, 11, 12, 13, 14, 15, 16, 17, 18, 19, 20, 23, 24, 34, 43, 51, 65, 97] rfl rfl ?_
      repeat (first | refine Run.seq ?_ | refine Run.skip ?_)
      first | refine Run.condT rfl rfl ?_ | refine Run.condF rfl rfl ?_ | refine Run.condT rfl (by assumption) ?_ | refine Run.condF rfl (by assumption) ?_
      repeat (first | refine Run.seq ?_ | refine Run.skip ?_ | refine Run.block ?_)
      refine Run.region ?_
      refine O.move rfl rfl ?_
      refine O.callE ck rfl (by first | rfl | simp [closed, men3, mens2_app, mens2_ints, mens2, men2, men1, mens1_app, mens1_ints, mens1]) (by first | rfl | simp [d2, ds1_ints, ds1_app, ds1, d1, ds0_app, ds0_ints, ds0, d0]) rfl ?_
      refine O.move rfl rfl ?_
      first | refine O.lenN hE T41 rfl rfl rfl (by first | exact newest_pv | exact newest_gl rfl rfl | trivial) lenC rfl ?_ | refine O.lenLst hE T41 rfl rfl rfl (by first | exact newest_pv | exact newest_gl rfl rfl | trivial) rfl ?_
      first | refine O.ar rfl rfl rfl (by exact wrap_i64 (by omega) (by omega)) rfl ?_ | refine O.ar rfl rfl rfl rfl rfl ?_
      refine O.assign rfl rfl ?_
      refine O.assign rfl rfl ?_
      refine O.nil ?_
      try refine Run.keep [0, 1, 2, 3, 4, 5, 10, 11, 12, 13, 14, 15, 16, 17, 18, 19, 20, 23, 24, 34, 43, 51, 65, 97] rfl rfl ?_
      repeat (first | refine Run.seq ?_ | refine Run.skip ?_ | refine Run.block ?_)
      refine Run.region ?_
      refine O.move rfl rfl ?_
      refine O.move rfl rfl ?_
      first | refine O.cmp rfl rfl rfl (by first | exact decide_eq_true (by omega) | exact decide_eq_false (by omega)) rfl ?_ | refine O.cmp rfl rfl rfl rfl rfl ?_
      refine O.nil ?_
      try refine Run.keep [0, 1, 2, 3, 4, 5, 10, 11, 12, 13, 14, 15, 16, 17, 18, 19, 20, 23, 24, 34, 43, 51, 65, 97] rfl rfl ?_
      repeat (first | refine Run.seq ?_ | refine Run.skip ?_)
      first | refine Run.condT rfl rfl ?_ | refine Run.condF rfl rfl ?_ | refine Run.condT rfl (by assumption) ?_ | refine Run.condF rfl (by assumption) ?_
      repeat (first | refine Run.seq ?_ | refine Run.skip ?_ | refine Run.block ?_)
      refine Run.draw mixed rfl ?_
      refine D.load hE T105 rfl rfl rfl rfl ?_
      refine D.move rfl rfl ?_
      refine D.move rfl rfl ?_
      first | refine D.ar rfl rfl rfl (by exact wrap_i64 (by omega) (by omega)) rfl ?_ | refine D.ar rfl rfl rfl rfl rfl ?_
      refine D.move rfl rfl ?_
      refine D.move rfl rfl ?_
      first | refine D.ar rfl rfl rfl (by exact wrap_i64 (by omega) (by omega)) rfl ?_ | refine D.ar rfl rfl rfl rfl rfl ?_
      refine D.move rfl rfl ?_
      refine D.move rfl rfl ?_
      refine D.sliceP hE T41 rfl T27 rfl rfl rfl rfl (by omega) (by omega) (by omega) hyt rfl ?_
      refine D.callE ci rfl (by first | rfl | simp [closed, men3, mens2_app, mens2_ints, mens2, men2, men1, mens1_app, mens1_ints, mens1]) (by first | rfl | simp [d2, ds1_ints, ds1_app, ds1, d1, ds0_app, ds0_ints, ds0, d0]) rfl ?_
      refine D.move rfl rfl ?_
      refine D.extract rfl rfl rfl ?_
      refine D.extract rfl rfl rfl ?_
      refine D.extract rfl rfl rfl ?_
      refine D.assign rfl rfl ?_
      refine D.assign rfl rfl ?_
      refine D.assign rfl rfl ?_
      refine Dr.nil ?_
      refine ⟨rfl, ?_⟩
      try refine Run.keep [0, 1, 2, 3, 4, 5, 10, 11, 12, 13, 14, 15, 16, 17, 18, 19, 20, 23, 24, 34, 43, 51, 65, 97] rfl rfl ?_
      repeat (first | refine Run.seq ?_ | refine Run.skip ?_ | refine Run.block ?_)
      refine Run.region ?_
      refine O.move rfl rfl ?_
      refine O.un rfl rfl rfl rfl rfl ?_
      refine O.nil ?_
      try refine Run.keep [0, 1, 2, 3, 4, 5, 10, 11, 12, 13, 14, 15, 16, 17, 18, 19, 20, 23, 24, 34, 43, 51, 65, 97] rfl rfl ?_
      repeat (first | refine Run.seq ?_ | refine Run.skip ?_)
      first | refine Run.condT rfl rfl ?_ | refine Run.condF rfl rfl ?_ | refine Run.condT rfl (by assumption) ?_ | refine Run.condF rfl (by assumption) ?_
      repeat (first | refine Run.seq ?_ | refine Run.skip ?_ | refine Run.block ?_)
      refine Run.draw mixed rfl ?_
      refine D.field hE L105 rfl rfl rfl rfl ?_
      first | refine D.loadS hE T3 rfl rfl rfl (by rfl) rfl ?_ | refine D.loadE hE T3 rfl rfl (by rfl) rfl ?_ | refine D.load hE T3 rfl rfl rfl rfl ?_
      refine D.move rfl rfl ?_
      refine D.move rfl rfl ?_
      refine D.index hE T41 rfl T27 rfl rfl newest_pv rfl (by omega) hyl rfl rfl rfl ?_
      first | refine D.loadS hE T27 rfl rfl rfl (by rfl) rfl ?_ | refine D.loadE hE T27 rfl rfl (by rfl) rfl ?_ | refine D.load hE T27 rfl rfl rfl rfl ?_
      refine D.move rfl rfl ?_
      refine D.callE cp rfl (by first | rfl | simp [closed, men3, mens2_app, mens2_ints, mens2, men2, men1, mens1_app, mens1_ints, mens1]) (by first | rfl | simp [d2, ds1_ints, ds1_app, ds1, d1, ds0_app, ds0_ints, ds0, d0]) rfl ?_
      refine D.move rfl rfl ?_
      refine D.extract rfl rfl rfl ?_
      refine D.extract rfl rfl rfl ?_
      refine D.assign rfl rfl ?_
      refine D.assign rfl rfl ?_
      refine Dr.nil ?_
      refine ⟨rfl, ?_⟩
      try refine Run.keep [0, 1, 2, 3, 4, 5, 10, 11, 12, 13, 14, 15, 16, 17, 18, 19, 20, 23, 24, 34, 43, 51, 65, 97] rfl rfl ?_
      repeat (first | refine Run.seq ?_ | refine Run.skip ?_ | refine Run.block ?_)
      refine Run.draw mixed rfl ?_
      refine D.field hE L105 rfl rfl rfl rfl ?_
      first | refine D.loadS hE T3 rfl rfl rfl (by rfl) rfl ?_ | refine D.loadE hE T3 rfl rfl (by rfl) rfl ?_ | refine D.load hE T3 rfl rfl rfl rfl ?_
      refine D.move rfl rfl ?_
      refine D.move rfl rfl ?_
      refine D.index hE T41 rfl T27 rfl rfl newest_pv rfl (by omega) hyl rfl rfl rfl ?_
      first | refine D.loadS hE T27 rfl rfl rfl (by rfl) rfl ?_ | refine D.loadE hE T27 rfl rfl (by rfl) rfl ?_ | refine D.load hE T27 rfl rfl rfl rfl ?_
      refine D.move rfl rfl ?_
      refine D.callE cq rfl (by first | rfl | simp [closed, men3, mens2_app, mens2_ints, mens2, men2, men1, mens1_app, mens1_ints, mens1]) (by first | rfl | simp [d2, ds1_ints, ds1_app, ds1, d1, ds0_app, ds0_ints, ds0, d0]) rfl ?_
      refine D.move rfl rfl ?_
      refine D.extract rfl rfl rfl ?_
      refine D.extract rfl rfl rfl ?_
      refine D.assign rfl rfl ?_
      refine D.assign rfl rfl ?_
      refine Dr.nil ?_
      refine ⟨rfl, ?_⟩
      try refine Run.keep [0, 1, 2, 3, 4, 5, 10, 11, 12, 13, 14, 15, 16, 17, 18, 19, 20, 23, 24, 34, 43, 51, 65, 97] rfl rfl ?_
      repeat (first | refine Run.seq ?_ | refine Run.skip ?_ | refine Run.block ?_)
      refine Run.region ?_
      refine O.move rfl rfl ?_
      refine O.move rfl rfl ?_
      refine O.move rfl rfl ?_
      first | refine O.cmp rfl rfl rfl (by first | exact decide_eq_true (by omega) | exact decide_eq_false (by omega)) rfl ?_ | refine O.cmp rfl rfl rfl rfl rfl ?_
      refine O.move rfl rfl ?_
      first | (refine O.yes rfl rfl (by first | rfl | assumption) ?_; refine O.move rfl rfl ?_) | refine O.no rfl rfl rfl rfl ?_
      first | (refine O.yes rfl rfl (by first | rfl | assumption) ?_; first | refine O.cmp rfl rfl rfl (by first | exact decide_eq_true (by omega) | exact decide_eq_false (by omega)) rfl ?_ | refine O.cmp rfl rfl rfl rfl rfl ?_) | refine O.no rfl rfl rfl rfl ?_
      refine O.pick rfl rfl rfl rfl rfl ?_
      refine O.assign rfl rfl ?_
      refine O.assign rfl rfl ?_
      refine O.assign rfl rfl ?_
      refine O.nil ?_
      try refine Run.keep [0, 1, 2, 3, 4, 5, 10, 11, 12, 13, 14, 15, 16, 17, 18, 19, 20, 23, 24, 34, 43, 51, 65, 97] rfl rfl ?_
      (repeat (first | refine Run.seq ?_ | refine Run.skip ?_)); (try refine Run.ret ?_); first | exact Ends.flat hE (.inr rfl) rfl rfl (AVle.of_eq rfl) rfl | exact Ends.flat hE (.inl rfl) rfl rfl (AVle.of_eq rfl) rfl
theorem fnCheckExtend {T : List Int → List Int → List Int} (hT : Feeds g T) {Hf : Int → Int} (hH : Halves g Hf) {mode : Int} (hm : mode = 1 ∨ mode = 2) {f : Nat} {ps : List (List Int)} {m : Int} (hl : ps.length ≤ f) (he : Entries ps) (h0 : 0 ≤ m) (h1 : m ≤ ps.length) (h2 : 1 ≤ ps.length) :
    FnC (En Tryd.prog g) 41 [.pv (.int .i64 mode), .pv (bys (rootP (digP T mode) Hf f (ps.take m.toNat))), .pv (.int .i64 m), .pv (bys (rootP (digP T mode) Hf f ps)), .pv (.int .i64 ps.length), .pv (.lst 1 ((extend (digP T mode) Hf f ps m).map bys))] (.pv (.int .i64 0)) [] := by
  have hE := EnOk g
  have c1 := fnModes (g := g) hm
  have h64 := he.1
  by_cases hz : m = 0
  ·
    have e : extend (digP T mode) Hf f ps m = [] := by unfold extend; rw [if_pos hz]
    have e0 : rootP (digP T mode) Hf f (ps.take m.toNat) = digP T mode 4 [] := by
      rw [hz]
      cases f with
      | zero => rfl
      | succ f => rfl
    rw [e, e0]
    have c0 := fnDigest hT (mode := mode) (tag := 4) (ps := []) hm (by omega) ⟨by simp, by simp, by decide⟩
    generalize rootP (digP T mode) Hf f ps = R at *
    generalize digP T mode 4 [] = Z at *
    obtain ⟨N, hN⟩ : ∃ N : Int, (ps.length : Int) = N := ⟨_, rfl⟩
    have hN64 : N ≤ 64 := by omega
    rw [hN] at h1 ⊢
    have c3 := fnBytesEq (g := g) Z
    refine FnC.of Tryd.func41 rfl rfl rfl rfl ?_
    repeat (first | refine Run.seq ?_ | refine Run.skip ?_ | refine Run.block ?_)
    refine Run.region ?_
    refine O.assign rfl rfl ?_
    refine O.nil ?_
    try refine Run.keep [0, 1, 2, 3, 4, 5, 12, 13, 14, 15, 16, 17, 20, 26, 33, 35, 63, 88] rfl rfl ?_
    repeat (first | refine Run.seq ?_ | refine Run.skip ?_ | refine Run.block ?_)
    refine Run.region ?_
    refine O.move rfl rfl ?_
    refine O.callE c1 rfl (by first | rfl | simp [closed, men3, mens2_app, mens2_ints, mens2, men2, men1, mens1_app, mens1_ints, mens1]) (by first | rfl | simp [d2, ds1_ints, ds1_app, ds1, d1, ds0_app, ds0_ints, ds0, d0]) rfl ?_
    refine O.un rfl rfl rfl rfl rfl ?_
    refine O.nil ?_
    try refine Run.keep [0, 1, 2, 3, 4, 5, 12, 13, 14, 15, 16, 17, 20, 26, 33, 35, 63, 88] rfl rfl ?_
    repeat (first | refine Run.seq ?_ | refine Run.skip ?_)
    first | refine Run.condT rfl rfl ?_ | refine Run.condF rfl rfl ?_ | refine Run.condT rfl (by assumption) ?_ | refine Run.condF rfl (by assumption) ?_
    repeat (first | refine Run.seq ?_ | refine Run.skip ?_ | refine Run.block ?_)
    refine Run.region ?_
    refine O.move rfl rfl ?_
    first | refine O.cmp rfl rfl rfl (by first | exact decide_eq_true (by omega) | exact decide_eq_false (by omega)) rfl ?_ | refine O.cmp rfl rfl rfl rfl rfl ?_
    refine O.move rfl rfl ?_
    first | (refine O.yes rfl rfl (by first | rfl | assumption) ?_; refine O.move rfl rfl ?_) | refine O.no rfl rfl rfl rfl ?_
    first | (refine O.yes rfl rfl (by first | rfl | assumption) ?_; first | refine O.cmp rfl rfl rfl (by first | exact decide_eq_true (by omega) | exact decide_eq_false (by omega)) rfl ?_ | refine O.cmp rfl rfl rfl rfl rfl ?_) | refine O.no rfl rfl rfl rfl ?_
    refine O.pick rfl rfl rfl rfl rfl ?_
    refine O.nil ?_
    try refine Run.keep [0, 1, 2, 3, 4, 5, 12, 13, 14, 15, 16, 17, 20, 26, 33, 35, 63, 88] rfl rfl ?_
    repeat (first | refine Run.seq ?_ | refine Run.skip ?_)
    first | refine Run.condT rfl rfl ?_ | refine Run.condF rfl rfl ?_ | refine Run.condT rfl (by assumption) ?_ | refine Run.condF rfl (by assumption) ?_
    repeat (first | refine Run.seq ?_ | refine Run.skip ?_ | refine Run.block ?_)
    refine Run.region ?_
    refine O.move rfl rfl ?_
    first | refine O.cmp rfl rfl rfl (by first | exact decide_eq_true (by omega) | exact decide_eq_false (by omega)) rfl ?_ | refine O.cmp rfl rfl rfl rfl rfl ?_
    refine O.move rfl rfl ?_
    first | (refine O.yes rfl rfl (by first | rfl | assumption) ?_; refine O.move rfl rfl ?_) | refine O.no rfl rfl rfl rfl ?_
    first | (refine O.yes rfl rfl (by first | rfl | assumption) ?_; refine O.move rfl rfl ?_) | refine O.no rfl rfl rfl rfl ?_
    first | (refine O.yes rfl rfl (by first | rfl | assumption) ?_; first | refine O.cmp rfl rfl rfl (by first | exact decide_eq_true (by omega) | exact decide_eq_false (by omega)) rfl ?_ | refine O.cmp rfl rfl rfl rfl rfl ?_) | refine O.no rfl rfl rfl rfl ?_
    refine O.pick rfl rfl rfl rfl rfl ?_
    refine O.nil ?_
    try refine Run.keep [0, 1, 2, 3, 4, 5, 12, 13, 14, 15, 16, 17, 20, 26, 33, 35, 63, 88] rfl rfl ?_
    repeat (first | refine Run.seq ?_ | refine Run.skip ?_)
    first | refine Run.condT rfl rfl ?_ | refine Run.condF rfl rfl ?_ | refine Run.condT rfl (by assumption) ?_ | refine Run.condF rfl (by assumption) ?_
    repeat (first | refine Run.seq ?_ | refine Run.skip ?_ | refine Run.block ?_)
    refine Run.region ?_
    refine O.move rfl rfl ?_
    first | refine O.cmp rfl rfl rfl (by first | exact decide_eq_true (by omega) | exact decide_eq_false (by omega)) rfl ?_ | refine O.cmp rfl rfl rfl rfl rfl ?_
    refine O.nil ?_
    try refine Run.keep [0, 1, 2, 3, 4, 5, 12, 13, 14, 15, 16, 17, 20, 26, 33, 35, 63, 88] rfl rfl ?_
    repeat (first | refine Run.seq ?_ | refine Run.skip ?_)
    first | refine Run.condT rfl rfl ?_ | refine Run.condF rfl rfl ?_ | refine Run.condT rfl (by assumption) ?_ | refine Run.condF rfl (by assumption) ?_
    repeat (first | refine Run.seq ?_ | refine Run.skip ?_ | refine Run.block ?_)
    refine Run.region ?_
    refine O.move rfl rfl ?_
    refine O.callF c0 (AVles.cons (AVle.of_eq rfl) (.cons (AVle.of_eq rfl) (.cons (AVle.nil 1) .nil))) rfl rfl rfl ?_
    refine O.move rfl rfl ?_
    refine O.extract rfl rfl rfl ?_
    refine O.extract rfl rfl rfl ?_
    refine O.assign rfl rfl ?_
    refine O.assign rfl rfl ?_
    refine O.nil ?_
    try refine Run.keep [0, 1, 2, 3, 4, 5, 12, 13, 14, 15, 16, 17, 20, 26, 33, 35, 63, 88] rfl rfl ?_
    repeat (first | refine Run.seq ?_ | refine Run.skip ?_ | refine Run.block ?_)
    refine Run.region ?_
    refine O.move rfl rfl ?_
    first | refine O.cmp rfl rfl rfl (by first | exact decide_eq_true (by omega) | exact decide_eq_false (by omega)) rfl ?_ | refine O.cmp rfl rfl rfl rfl rfl ?_
    refine O.move rfl rfl ?_
    first | (refine O.yes rfl rfl (by first | rfl | assumption) ?_; refine O.move rfl rfl ?_) | refine O.no rfl rfl rfl rfl ?_
    first | (refine O.yes rfl rfl (by first | rfl | assumption) ?_; first | refine O.lenN hE T41 rfl rfl rfl (by first | exact newest_pv | exact newest_gl rfl rfl | trivial) lenC rfl ?_ | refine O.lenLst hE T41 rfl rfl rfl (by first | exact newest_pv | exact newest_gl rfl rfl | trivial) rfl ?_) | refine O.no rfl rfl rfl rfl ?_
    first | (refine O.yes rfl rfl (by first | rfl | assumption) ?_; first | refine O.cmp rfl rfl rfl (by first | exact decide_eq_true (by omega) | exact decide_eq_false (by omega)) rfl ?_ | refine O.cmp rfl rfl rfl rfl rfl ?_) | refine O.no rfl rfl rfl rfl ?_
    refine O.pick rfl rfl rfl rfl rfl ?_
    refine O.move rfl rfl ?_
    first | (refine O.yes rfl rfl (by first | rfl | assumption) ?_; refine O.move rfl rfl ?_) | refine O.no rfl rfl rfl rfl ?_
    first | (refine O.yes rfl rfl (by first | rfl | assumption) ?_; refine O.move rfl rfl ?_) | refine O.no rfl rfl rfl rfl ?_
    first | (refine O.yes rfl rfl (by first | rfl | assumption) ?_; refine O.callE c3 rfl (by first | rfl | simp [closed, men3, mens2_app, mens2_ints, mens2, men2, men1, mens1_app, mens1_ints, mens1]) (by first | rfl | simp [d2, ds1_ints, ds1_app, ds1, d1, ds0_app, ds0_ints, ds0, d0]) rfl ?_) | refine O.no rfl rfl rfl rfl ?_
    first | (refine O.yes rfl rfl (by first | rfl | assumption) ?_; refine O.un rfl rfl rfl rfl rfl ?_) | refine O.no rfl rfl rfl rfl ?_
    refine O.pick rfl rfl rfl rfl rfl ?_
    refine O.move rfl rfl ?_
    first | (refine O.yes rfl rfl (by first | rfl | assumption) ?_; refine O.move rfl rfl ?_) | refine O.no rfl rfl rfl rfl ?_
    first | (refine O.yes rfl rfl (by first | rfl | assumption) ?_; first | refine O.cmp rfl rfl rfl (by first | exact decide_eq_true (by omega) | exact decide_eq_false (by omega)) rfl ?_ | refine O.cmp rfl rfl rfl rfl rfl ?_) | refine O.no rfl rfl rfl rfl ?_
    first | (refine O.yes rfl rfl (by first | rfl | assumption) ?_; refine O.move rfl rfl ?_) | refine O.no rfl rfl rfl rfl ?_
    first | (refine O.yes rfl rfl (by first | rfl | assumption) ?_; refine O.move rfl rfl ?_) | refine O.no rfl rfl rfl rfl ?_
    first | (refine O.yes rfl rfl (by first | rfl | assumption) ?_; refine O.move rfl rfl ?_) | refine O.no rfl rfl rfl rfl ?_
    first | (refine O.yes rfl rfl (by first | rfl | assumption) ?_; refine O.callE c3 rfl (by first | rfl | simp [closed, men3, mens2_app, mens2_ints, mens2, men2, men1, mens1_app, mens1_ints, mens1]) (by first | rfl | simp [d2, ds1_ints, ds1_app, ds1, d1, ds0_app, ds0_ints, ds0, d0]) rfl ?_) | refine O.no rfl rfl rfl rfl ?_
    first | (refine O.yes rfl rfl (by first | rfl | assumption) ?_; refine O.un rfl rfl rfl rfl rfl ?_) | refine O.no rfl rfl rfl rfl ?_
    first | (refine O.yes rfl rfl (by first | rfl | assumption) ?_; refine O.pick rfl rfl rfl rfl rfl ?_) | refine O.no rfl rfl rfl rfl ?_
    refine O.pick rfl rfl rfl rfl rfl ?_
    refine O.nil ?_
    try refine Run.keep [0, 1, 2, 3, 4, 5, 12, 13, 14, 15, 16, 17, 20, 26, 33, 35, 63, 88] rfl rfl ?_
    repeat (first | refine Run.seq ?_ | refine Run.skip ?_)
    first | refine Run.condT rfl rfl ?_ | refine Run.condF rfl rfl ?_ | refine Run.condT rfl (by assumption) ?_ | refine Run.condF rfl (by assumption) ?_
    repeat (first | refine Run.seq ?_ | refine Run.skip ?_ | refine Run.block ?_)
    refine Run.region ?_
    refine O.assign rfl rfl ?_
    refine O.nil ?_
    try refine Run.keep [0, 1, 2, 3, 4, 5, 12, 13, 14, 15, 16, 17, 20, 26, 33, 35, 63, 88] rfl rfl ?_
    (repeat (first | refine Run.seq ?_ | refine Run.skip ?_)); (try refine Run.ret ?_); first | exact Ends.flat hE (.inr rfl) rfl rfl (AVle.of_eq rfl) rfl | exact Ends.flat hE (.inl rfl) rfl rfl (AVle.of_eq rfl) rfl
  have e : extend (digP T mode) Hf f ps m = extP (digP T mode) Hf f ps m true := by unfold extend; rw [if_neg hz]
  rw [e]
  have c2 := fnRoots hT hH hm f ps m true _ hl he (by omega) h1 (fun _ => rfl)
  generalize rootP (digP T mode) Hf f (ps.take m.toNat) = Q at *
  generalize rootP (digP T mode) Hf f ps = R at *
  generalize extP (digP T mode) Hf f ps m true = L at *
  obtain ⟨N, hN⟩ : ∃ N : Int, (ps.length : Int) = N := ⟨_, rfl⟩
  have hN64 : N ≤ 64 := by omega
  rw [hN] at c2 h1 ⊢
  have c3 := fnBytesEq (g := g) Q
  have c4 := fnBytesEq (g := g) R
  refine FnC.of Tryd.func41 rfl rfl rfl rfl ?_
  repeat (first | refine Run.seq ?_ | refine Run.skip ?_ | refine Run.block ?_)
  refine Run.region ?_
  refine O.assign rfl rfl ?_
  refine O.nil ?_
  try refine Run.keep [0, 1, 2, 3, 4, 5, 12, 13, 14, 15, 16, 17, 20, 26, 33, 35, 63, 88] rfl rfl ?_
  repeat (first | refine Run.seq ?_ | refine Run.skip ?_ | refine Run.block ?_)
  refine Run.region ?_
  refine O.move rfl rfl ?_
  refine O.callE c1 rfl (by first | rfl | simp [closed, men3, mens2_app, mens2_ints, mens2, men2, men1, mens1_app, mens1_ints, mens1]) (by first | rfl | simp [d2, ds1_ints, ds1_app, ds1, d1, ds0_app, ds0_ints, ds0, d0]) rfl ?_
  refine O.un rfl rfl rfl rfl rfl ?_
  refine O.nil ?_
  try refine Run.keep [0, 1, 2, 3, 4, 5, 12, 13, 14, 15, 16, 17, 20, 26, 33, 35, 63, 88] rfl rfl ?_
  repeat (first | refine Run.seq ?_ | refine Run.skip ?_)
  first | refine Run.condT rfl rfl ?_ | refine Run.condF rfl rfl ?_ | refine Run.condT rfl (by assumption) ?_ | refine Run.condF rfl (by assumption) ?_
  repeat (first | refine Run.seq ?_ | refine Run.skip ?_ | refine Run.block ?_)
  refine Run.region ?_
  refine O.move rfl rfl ?_
  first | refine O.cmp rfl rfl rfl (by first | exact decide_eq_true (by omega) | exact decide_eq_false (by omega)) rfl ?_ | refine O.cmp rfl rfl rfl rfl rfl ?_
  refine O.move rfl rfl ?_
  first | (refine O.yes rfl rfl (by first | rfl | assumption) ?_; refine O.move rfl rfl ?_) | refine O.no rfl rfl rfl rfl ?_
  first | (refine O.yes rfl rfl (by first | rfl | assumption) ?_; first | refine O.cmp rfl rfl rfl (by first | exact decide_eq_true (by omega) | exact decide_eq_false (by omega)) rfl ?_ | refine O.cmp rfl rfl rfl rfl rfl ?_) | refine O.no rfl rfl rfl rfl ?_
  refine O.pick rfl rfl rfl rfl rfl ?_
  refine O.nil ?_
  try refine Run.keep [0, 1, 2, 3, 4, 5, 12, 13, 14, 15, 16, 17, 20, 26, 33, 35, 63, 88] rfl rfl ?_
  repeat (first | refine Run.seq ?_ | refine Run.skip ?_)
  first | refine Run.condT rfl rfl ?_ | refine Run.condF rfl rfl ?_ | refine Run.condT rfl (by assumption) ?_ | refine Run.condF rfl (by assumption) ?_
  repeat (first | refine Run.seq ?_ | refine Run.skip ?_ | refine Run.block ?_)
  refine Run.region ?_
  refine O.move rfl rfl ?_
  first | refine O.cmp rfl rfl rfl (by first | exact decide_eq_true (by omega) | exact decide_eq_false (by omega)) rfl ?_ | refine O.cmp rfl rfl rfl rfl rfl ?_
  refine O.move rfl rfl ?_
  first | (refine O.yes rfl rfl (by first | rfl | assumption) ?_; refine O.move rfl rfl ?_) | refine O.no rfl rfl rfl rfl ?_
  first | (refine O.yes rfl rfl (by first | rfl | assumption) ?_; refine O.move rfl rfl ?_) | refine O.no rfl rfl rfl rfl ?_
  first | (refine O.yes rfl rfl (by first | rfl | assumption) ?_; first | refine O.cmp rfl rfl rfl (by first | exact decide_eq_true (by omega) | exact decide_eq_false (by omega)) rfl ?_ | refine O.cmp rfl rfl rfl rfl rfl ?_) | refine O.no rfl rfl rfl rfl ?_
  refine O.pick rfl rfl rfl rfl rfl ?_
  refine O.nil ?_
  try refine Run.keep [0, 1, 2, 3, 4, 5, 12, 13, 14, 15, 16, 17, 20, 26, 33, 35, 63, 88] rfl rfl ?_
  repeat (first | refine Run.seq ?_ | refine Run.skip ?_)
  first | refine Run.condT rfl rfl ?_ | refine Run.condF rfl rfl ?_ | refine Run.condT rfl (by assumption) ?_ | refine Run.condF rfl (by assumption) ?_
  repeat (first | refine Run.seq ?_ | refine Run.skip ?_ | refine Run.block ?_)
  refine Run.region ?_
  refine O.move rfl rfl ?_
  first | refine O.cmp rfl rfl rfl (by first | exact decide_eq_true (by omega) | exact decide_eq_false (by omega)) rfl ?_ | refine O.cmp rfl rfl rfl rfl rfl ?_
  refine O.nil ?_
  try refine Run.keep [0, 1, 2, 3, 4, 5, 12, 13, 14, 15, 16, 17, 20, 26, 33, 35, 63, 88] rfl rfl ?_
  repeat (first | refine Run.seq ?_ | refine Run.skip ?_)
  first | refine Run.condT rfl rfl ?_ | refine Run.condF rfl rfl ?_ | refine Run.condT rfl (by assumption) ?_ | refine Run.condF rfl (by assumption) ?_
  repeat (first | refine Run.seq ?_ | refine Run.skip ?_ | refine Run.block ?_)
  refine Run.region ?_
  refine O.move rfl rfl ?_
  refine O.move rfl rfl ?_
  refine O.build hE T105 L105 rfl rfl rfl ?_
  refine O.move rfl rfl ?_
  refine O.move rfl rfl ?_
  refine O.move rfl rfl ?_
  refine O.callE c2 rfl (by first | rfl | simp [closed, men3, mens2_app, mens2_ints, mens2, men2, men1, mens1_app, mens1_ints, mens1]) (by first | rfl | simp [d2, ds1_ints, ds1_app, ds1, d1, ds0_app, ds0_ints, ds0, d0]) rfl ?_
  refine O.move rfl rfl ?_
  refine O.extract rfl rfl rfl ?_
  refine O.extract rfl rfl rfl ?_
  refine O.extract rfl rfl rfl ?_
  refine O.assign rfl rfl ?_
  refine O.assign rfl rfl ?_
  refine O.assign rfl rfl ?_
  refine O.nil ?_
  try refine Run.keep [0, 1, 2, 3, 4, 5, 12, 13, 14, 15, 16, 17, 20, 26, 33, 35, 63, 88] rfl rfl ?_
  repeat (first | refine Run.seq ?_ | refine Run.skip ?_ | refine Run.block ?_)
  refine Run.region ?_
  refine O.move rfl rfl ?_
  refine O.un rfl rfl rfl rfl rfl ?_
  refine O.move rfl rfl ?_
  first | (refine O.yes rfl rfl (by first | rfl | assumption) ?_; refine O.move rfl rfl ?_) | refine O.no rfl rfl rfl rfl ?_
  first | (refine O.yes rfl rfl (by first | rfl | assumption) ?_; refine O.move rfl rfl ?_) | refine O.no rfl rfl rfl rfl ?_
  first | (refine O.yes rfl rfl (by first | rfl | assumption) ?_; refine O.callE c3 rfl (by first | rfl | simp [closed, men3, mens2_app, mens2_ints, mens2, men2, men1, mens1_app, mens1_ints, mens1]) (by first | rfl | simp [d2, ds1_ints, ds1_app, ds1, d1, ds0_app, ds0_ints, ds0, d0]) rfl ?_) | refine O.no rfl rfl rfl rfl ?_
  first | (refine O.yes rfl rfl (by first | rfl | assumption) ?_; refine O.un rfl rfl rfl rfl rfl ?_) | refine O.no rfl rfl rfl rfl ?_
  refine O.pick rfl rfl rfl rfl rfl ?_
  refine O.move rfl rfl ?_
  first | (refine O.yes rfl rfl (by first | rfl | assumption) ?_; refine O.move rfl rfl ?_) | refine O.no rfl rfl rfl rfl ?_
  first | (refine O.yes rfl rfl (by first | rfl | assumption) ?_; refine O.move rfl rfl ?_) | refine O.no rfl rfl rfl rfl ?_
  first | (refine O.yes rfl rfl (by first | rfl | assumption) ?_; refine O.callE c4 rfl (by first | rfl | simp [closed, men3, mens2_app, mens2_ints, mens2, men2, men1, mens1_app, mens1_ints, mens1]) (by first | rfl | simp [d2, ds1_ints, ds1_app, ds1, d1, ds0_app, ds0_ints, ds0, d0]) rfl ?_) | refine O.no rfl rfl rfl rfl ?_
  first | (refine O.yes rfl rfl (by first | rfl | assumption) ?_; refine O.un rfl rfl rfl rfl rfl ?_) | refine O.no rfl rfl rfl rfl ?_
  refine O.pick rfl rfl rfl rfl rfl ?_
  refine O.nil ?_
  try refine Run.keep [0, 1, 2, 3, 4, 5, 12, 13, 14, 15, 16, 17, 20, 26, 33, 35, 63, 88] rfl rfl ?_
  repeat (first | refine Run.seq ?_ | refine Run.skip ?_)
  first | refine Run.condT rfl rfl ?_ | refine Run.condF rfl rfl ?_ | refine Run.condT rfl (by assumption) ?_ | refine Run.condF rfl (by assumption) ?_
  repeat (first | refine Run.seq ?_ | refine Run.skip ?_ | refine Run.block ?_)
  refine Run.region ?_
  refine O.assign rfl rfl ?_
  refine O.nil ?_
  try refine Run.keep [0, 1, 2, 3, 4, 5, 12, 13, 14, 15, 16, 17, 20, 26, 33, 35, 63, 88] rfl rfl ?_
  (repeat (first | refine Run.seq ?_ | refine Run.skip ?_)); (try refine Run.ret ?_); first | exact Ends.flat hE (.inr rfl) rfl rfl (AVle.of_eq rfl) rfl | exact Ends.flat hE (.inl rfl) rfl rfl (AVle.of_eq rfl) rfl
end Go.Proofs.YtcbdhdblchmofaaDoor.Vm
