/- Rolls: what a path to an entry proves. Conditions: the table of steps has 64 words. -/
import Derived.Test.YthpenjbpaegpgaaDoorRollU
namespace Go.Proofs.YthpenjbpaegpgaaDoor.Vm
open Go Go.RowKit
set_option linter.unusedVariables false
set_option linter.unusedSimpArgs false
attribute [local irreducible] Ops Dr Run digP
variable {g : Nat → Option (List PV)}
def pathP (D : Int → List (List Int) → List Int) (Hf : Int → Int) : Nat → List (List Int) → Int → List (List Int)
  | 0, ps, i => []
  | f + 1, ps, i => if ps.length = 1 then [] else if i < Hf ps.length then pathP D Hf f (ps.take (Hf ps.length).toNat) i ++ [rootP D Hf f (ps.drop (Hf ps.length).toNat)] else pathP D Hf f (ps.drop (Hf ps.length).toNat) (i - Hf ps.length) ++ [rootP D Hf f (ps.take (Hf ps.length).toNat)]
theorem path_len {D : Int → List (List Int) → List Int} {Hf : Int → Int} (hH : Halves g Hf) : ∀ (f : Nat) (ps : List (List Int)) (i : Int), ps.length ≤ f → 1 ≤ ps.length → ps.length ≤ 64 → (pathP D Hf f ps i).length ≤ ps.length
  | 0, ps, i, h, h1, h2 => by simp [pathP]
  | f + 1, ps, i, h, h1, h2 => by
    simp only [pathP]
    split
    · simp
    · obtain ⟨_, k1, k2, k3, _⟩ := hH ps.length (by omega) (by omega)
      generalize Hf ps.length = k at *
      have l1 : (ps.take k.toNat).length = k.toNat := by rw [List.length_take]; omega
      have l2 : (ps.drop k.toNat).length = ps.length - k.toNat := by rw [List.length_drop]
      split
      · have := path_len (D := D) hH f (ps.take k.toNat) i (by omega) (by omega) (by omega)
        simp only [List.length_append, List.length_cons, List.length_nil]; omega
      · have := path_len (D := D) hH f (ps.drop k.toNat) (i - k) (by omega) (by omega) (by omega)
        simp only [List.length_append, List.length_cons, List.length_nil]; omega
theorem fnIncluded {T : List Int → List Int → List Int} (hT : Feeds g T) {Hf : Int → Int} (hH : Halves g Hf) {mode : Int} (hm : mode = 1 ∨ mode = 2) : ∀ (f : Nat) (ps : List (List Int)) (i : Int), ps.length ≤ f → Entries ps → 0 ≤ i → i < ps.length →
    FnC (En Tryd.prog g) 30 [.pv (.int .i64 mode), .pv (.int .i64 ps.length), .pv (.int .i64 i), .pv (bys (ps.getD i.toNat [])), .pv (.lst 1 ((pathP (digP T mode) Hf f ps i).map bys))] (.tup [.pv (bys (rootP (digP T mode) Hf f ps)), .pv (.bool true)]) [] := by
  intro f
  induction f with
  | zero => intro ps i hl he h0 h1; omega
  | succ f ih =>
    intro ps i hl he h0 h1
    have hE := EnOk g
    by_cases hn1 : ps.length = 1
    ·
      have hps : ps.take 1 = [ps.getD i.toNat []] := by
        obtain ⟨p, rfl⟩ : ∃ p, ps = [p] := by
          cases ps with
          | nil => simp at hn1
          | cons p l => cases l with
            | nil => exact ⟨p, rfl⟩
            | cons q l => simp at hn1
        have : i = 0 := by simp at h1; omega
        subst this
        rfl
      have e1 : rootP (digP T mode) Hf (f + 1) ps = digP T mode 5 [ps.getD i.toNat []] := by simp only [rootP]; rw [if_neg (by omega), if_pos hn1, hps]
      have e2 : pathP (digP T mode) Hf (f + 1) ps i = [] := by simp only [pathP]; rw [if_pos hn1]
      rw [e1, e2]
      have hpl := tot_one he
      rw [hps] at hpl
      have c1 := fnDigest hT (mode := mode) (tag := 5) (ps := [ps.getD i.toNat []]) hm (by omega) ⟨by simp, by simp [tot] at hpl ⊢; omega, by omega⟩
      generalize ps.getD i.toNat [] = P at *
      generalize digP T mode 5 [P] = R at *
      obtain ⟨N, hN⟩ : ∃ N : Int, (ps.length : Int) = N := ⟨_, rfl⟩
      have hN1 : N = 1 := by omega
      rw [hN]
      refine FnC.of Tryd.func30 rfl rfl rfl rfl ?_
      repeat (first | refine Run.seq ?_ | refine Run.skip ?_ | refine Run.block ?_)
      refine Run.region ?_
      refine O.assign rfl rfl ?_
      refine O.assign rfl rfl ?_
      refine O.nil ?_
      try refine Run.keep [0, 1, 2, 3, 4, 10, 11, 12, 13, 14, 15, 16, 17, 18, 19, 20, 21, 23, 41, 49, 62, 92] rfl rfl ?_
      repeat (first | refine Run.seq ?_ | refine Run.skip ?_ | refine Run.block ?_)
      refine Run.region ?_
      refine O.move rfl rfl ?_
      first | refine O.cmp rfl rfl rfl (by first | exact decide_eq_true (by omega) | exact decide_eq_false (by omega)) rfl ?_ | refine O.cmp rfl rfl rfl rfl rfl ?_
      refine O.nil ?_
      try refine Run.keep [0, 1, 2, 3, 4, 10, 11, 12, 13, 14, 15, 16, 17, 18, 19, 20, 21, 23, 41, 49, 62, 92] rfl rfl ?_
      repeat (first | refine Run.seq ?_ | refine Run.skip ?_)
      first | refine Run.condT rfl rfl ?_ | refine Run.condF rfl rfl ?_ | refine Run.condT rfl (by assumption) ?_ | refine Run.condF rfl (by assumption) ?_
      repeat (first | refine Run.seq ?_ | refine Run.skip ?_ | refine Run.block ?_)
      refine Run.region ?_
      refine O.move rfl rfl ?_
      refine O.move rfl rfl ?_
      refine O.litV hE T24 rfl T31 rfl rfl rfl rfl rfl rfl rfl ?_
      refine O.callE c1 rfl (by first | rfl | simp [closed, men3, mens2_app, mens2_ints, mens2, men2, men1, mens1_app, mens1_ints, mens1]) (by first | rfl | simp [d2, ds1_ints, ds1_app, ds1, d1, ds0_app, ds0_ints, ds0, d0]) rfl ?_
      refine O.move rfl rfl ?_
      refine O.extract rfl rfl rfl ?_
      refine O.extract rfl rfl rfl ?_
      refine O.assign rfl rfl ?_
      refine O.assign rfl rfl ?_
      refine O.nil ?_
      try refine Run.keep [0, 1, 2, 3, 4, 10, 11, 12, 13, 14, 15, 16, 17, 18, 19, 20, 21, 23, 41, 49, 62, 92] rfl rfl ?_
      repeat (first | refine Run.seq ?_ | refine Run.skip ?_ | refine Run.block ?_)
      refine Run.region ?_
      refine O.move rfl rfl ?_
      refine O.move rfl rfl ?_
      first | refine O.cmp rfl rfl rfl (by first | exact decide_eq_true (by omega) | exact decide_eq_false (by omega)) rfl ?_ | refine O.cmp rfl rfl rfl rfl rfl ?_
      refine O.move rfl rfl ?_
      first | (refine O.yes rfl rfl (by first | rfl | assumption) ?_; refine O.move rfl rfl ?_) | refine O.no rfl rfl rfl rfl ?_
      first | (refine O.yes rfl rfl (by first | rfl | assumption) ?_; first | refine O.lenN hE T24 rfl rfl rfl (by first | exact newest_pv | exact newest_gl rfl rfl | trivial) lenC rfl ?_ | refine O.lenLst hE T24 rfl rfl rfl (by first | exact newest_pv | exact newest_gl rfl rfl | trivial) rfl ?_) | refine O.no rfl rfl rfl rfl ?_
      first | (refine O.yes rfl rfl (by first | rfl | assumption) ?_; first | refine O.cmp rfl rfl rfl (by first | exact decide_eq_true (by omega) | exact decide_eq_false (by omega)) rfl ?_ | refine O.cmp rfl rfl rfl rfl rfl ?_) | refine O.no rfl rfl rfl rfl ?_
      refine O.pick rfl rfl rfl rfl rfl ?_
      refine O.assign rfl rfl ?_
      refine O.assign rfl rfl ?_
      refine O.nil ?_
      try refine Run.keep [0, 1, 2, 3, 4, 10, 11, 12, 13, 14, 15, 16, 17, 18, 19, 20, 21, 23, 41, 49, 62, 92] rfl rfl ?_
      (repeat (first | refine Run.seq ?_ | refine Run.skip ?_)); (try refine Run.ret ?_); first | exact Ends.flat hE (.inr rfl) rfl rfl (AVle.of_eq rfl) rfl | exact Ends.flat hE (.inl rfl) rfl rfl (AVle.of_eq rfl) rfl
    obtain ⟨_, k1, k2, k3, ck⟩ := hH ps.length (by omega) (by have := he.1; omega)
    have e1 : rootP (digP T mode) Hf (f + 1) ps = digP T mode 6 [rootP (digP T mode) Hf f (ps.take (Hf ps.length).toNat), rootP (digP T mode) Hf f (ps.drop (Hf ps.length).toNat)] := by simp only [rootP]; rw [if_neg (by omega), if_neg hn1]
    have hpl := path_len (D := digP T mode) hH (f + 1) ps i hl (by omega) he.1
    have h64 := he.1
    have hent : ∀ b : Bool, b = decide (i < Hf ps.length) → True := fun _ _ => trivial
    by_cases hik : i < Hf ps.length
    ·
      have e2 : pathP (digP T mode) Hf (f + 1) ps i = pathP (digP T mode) Hf f (ps.take (Hf ps.length).toNat) i ++ [rootP (digP T mode) Hf f (ps.drop (Hf ps.length).toNat)] := by simp only [pathP]; rw [if_neg hn1, if_pos hik]
      rw [e2] at hpl
      rw [e1, e2]
      generalize Hf ps.length = k at *
      have l1 : (ps.take k.toNat).length = k.toNat := by rw [List.length_take]; omega
      have l2 : (ps.drop k.toNat).length = ps.length - k.toNat := by rw [List.length_drop]
      have la := (root_len (T := T) (mode := mode) hH f (ps.take k.toNat) (by omega) (he.take _)).1
      have lb := (root_len (T := T) (mode := mode) hH f (ps.drop k.toNat) (by omega) (he.drop _)).1
      have ci := ih (ps.take k.toNat) i (by omega) (he.take _) h0 (by omega)
      have hg : (ps.take k.toNat).getD i.toNat [] = ps.getD i.toNat [] := by
        simp only [List.getD_eq_getElem?_getD, List.getElem?_take]
        rw [if_pos (by omega)]
      have hk : ((ps.take k.toNat).length : Int) = k := by omega
      rw [hg, hk] at ci
      generalize rootP (digP T mode) Hf f (ps.take k.toNat) = ra at *
      generalize rootP (digP T mode) Hf f (ps.drop k.toNat) = rb at *
      generalize pathP (digP T mode) Hf f (ps.take k.toNat) i = Pp at *
      have cp := fnPair hT (mode := mode) (a := ra) (b := rb) hm (by omega) (by omega)
      generalize digP T mode 6 [ra, rb] = R at *
      generalize ps.getD i.toNat [] = P at *
      obtain ⟨N, hN⟩ : ∃ N : Int, (ps.length : Int) = N := ⟨_, rfl⟩
      rw [hN] at ck k2 ⊢
      obtain ⟨L, hL⟩ : ∃ L, Pp ++ [rb] = L := ⟨_, rfl⟩
      rw [hL] at hpl ⊢
      have hLl : L.length = Pp.length + 1 := by rw [← hL]; simp
      have hLm : (L.map bys).length = L.length := by simp
      have hyt : ((L.map bys).take ((L.length : Int) - 1).toNat).drop (0 : Int).toNat = Pp.map bys := by
        have : ((L.length : Int) - 1).toNat = (Pp.map bys).length := by simp; omega
        rw [this, ← hL, List.map_append, List.take_left]
        rfl
      have hyl : (L.map bys)[((L.length : Int) - 1).toNat]? = some (bys rb) := by
        have : ((L.length : Int) - 1).toNat = (Pp.map bys).length := by simp; omega
        rw [this, ← hL, List.map_append, List.getElem?_append_right (Nat.le_refl _), Nat.sub_self]
        rfl
      refine FnC.of Tryd.func30 rfl rfl rfl rfl ?_
      repeat (first | refine Run.seq ?_ | refine Run.skip ?_ | refine Run.block ?_)
      refine Run.region ?_
      refine O.assign rfl rfl ?_
      refine O.assign rfl rfl ?_
      refine O.nil ?_
      try refine Run.keep [0, 1, 2, 3, 4, 10, 11, 12, 13, 14, 15, 16, 17, 18, 19, 20, 21, 23, 41, 49, 62, 92] rfl rfl ?_
      repeat (first | refine Run.seq ?_ | refine Run.skip ?_ | refine Run.block ?_)
      refine Run.region ?_
      refine O.move rfl rfl ?_
      first | refine O.cmp rfl rfl rfl (by first | exact decide_eq_true (by omega) | exact decide_eq_false (by omega)) rfl ?_ | refine O.cmp rfl rfl rfl rfl rfl ?_
      refine O.nil ?_
      try refine Run.keep [0, 1, 2, 3, 4, 10, 11, 12, 13, 14, 15, 16, 17, 18, 19, 20, 21, 23, 41, 49, 62, 92] rfl rfl ?_
      repeat (first | refine Run.seq ?_ | refine Run.skip ?_)
      first | refine Run.condT rfl rfl ?_ | refine Run.condF rfl rfl ?_ | refine Run.condT rfl (by assumption) ?_ | refine Run.condF rfl (by assumption) ?_
      repeat (first | refine Run.seq ?_ | refine Run.skip ?_ | refine Run.block ?_)
      refine Run.region ?_
      refine O.move rfl rfl ?_
      first | refine O.lenN hE T24 rfl rfl rfl (by first | exact newest_pv | exact newest_gl rfl rfl | trivial) lenC rfl ?_ | refine O.lenLst hE T24 rfl rfl rfl (by first | exact newest_pv | exact newest_gl rfl rfl | trivial) rfl ?_
      first | refine O.cmp rfl rfl rfl (by first | exact decide_eq_true (by omega) | exact decide_eq_false (by omega)) rfl ?_ | refine O.cmp rfl rfl rfl rfl rfl ?_
      refine O.nil ?_
      try refine Run.keep [0, 1, 2, 3, 4, 10, 11, 12, 13, 14, 15, 16, 17, 18, 19, 20, 21, 23, 41, 49, 62, 92] rfl rfl ?_
      repeat (first | refine Run.seq ?_ | refine Run.skip ?_)
      first | refine Run.condT rfl rfl ?_ | refine Run.condF rfl rfl ?_ | refine Run.condT rfl (by assumption) ?_ | refine Run.condF rfl (by assumption) ?_
      repeat (first | refine Run.seq ?_ | refine Run.skip ?_ | refine Run.block ?_)
      refine Run.region ?_
      refine O.move rfl rfl ?_
      refine O.callE ck rfl (by first | rfl | simp [closed, men3, mens2_app, mens2_ints, mens2, men2, men1, mens1_app, mens1_ints, mens1]) (by first | rfl | simp [d2, ds1_ints, ds1_app, ds1, d1, ds0_app, ds0_ints, ds0, d0]) rfl ?_
      refine O.move rfl rfl ?_
      first | refine O.lenN hE T24 rfl rfl rfl (by first | exact newest_pv | exact newest_gl rfl rfl | trivial) lenC rfl ?_ | refine O.lenLst hE T24 rfl rfl rfl (by first | exact newest_pv | exact newest_gl rfl rfl | trivial) rfl ?_
      first | refine O.ar rfl rfl rfl (by exact wrap_i64 (by omega) (by omega)) rfl ?_ | refine O.ar rfl rfl rfl rfl rfl ?_
      refine O.assign rfl rfl ?_
      refine O.assign rfl rfl ?_
      refine O.nil ?_
      try refine Run.keep [0, 1, 2, 3, 4, 10, 11, 12, 13, 14, 15, 16, 17, 18, 19, 20, 21, 23, 41, 49, 62, 92] rfl rfl ?_
      repeat (first | refine Run.seq ?_ | refine Run.skip ?_ | refine Run.block ?_)
      refine Run.region ?_
      refine O.move rfl rfl ?_
      refine O.move rfl rfl ?_
      first | refine O.cmp rfl rfl rfl (by first | exact decide_eq_true (by omega) | exact decide_eq_false (by omega)) rfl ?_ | refine O.cmp rfl rfl rfl rfl rfl ?_
      refine O.nil ?_
      try refine Run.keep [0, 1, 2, 3, 4, 10, 11, 12, 13, 14, 15, 16, 17, 18, 19, 20, 21, 23, 41, 49, 62, 92] rfl rfl ?_
      repeat (first | refine Run.seq ?_ | refine Run.skip ?_)
      first | refine Run.condT rfl rfl ?_ | refine Run.condF rfl rfl ?_ | refine Run.condT rfl (by assumption) ?_ | refine Run.condF rfl (by assumption) ?_
      repeat (first | refine Run.seq ?_ | refine Run.skip ?_ | refine Run.block ?_)
      refine Run.region ?_
      refine O.move rfl rfl ?_
      refine O.move rfl rfl ?_
      refine O.move rfl rfl ?_
      refine O.move rfl rfl ?_
      refine O.move rfl rfl ?_
      refine O.move rfl rfl ?_
      refine O.slice hE T24 rfl T31 rfl rfl newest_pv rfl rfl rfl (by omega) (by omega) (by show (L.length : Int) - 1 ≤ ((L.map bys).length : Int); omega) hyt rfl ?_
      refine O.callE ci rfl (by first | rfl | simp [closed, men3, mens2_app, mens2_ints, mens2, men2, men1, mens1_app, mens1_ints, mens1]) (by first | rfl | simp [d2, ds1_ints, ds1_app, ds1, d1, ds0_app, ds0_ints, ds0, d0]) rfl ?_
      refine O.move rfl rfl ?_
      refine O.extract rfl rfl rfl ?_
      refine O.extract rfl rfl rfl ?_
      refine O.assign rfl rfl ?_
      refine O.assign rfl rfl ?_
      refine O.nil ?_
      try refine Run.keep [0, 1, 2, 3, 4, 10, 11, 12, 13, 14, 15, 16, 17, 18, 19, 20, 21, 23, 41, 49, 62, 92] rfl rfl ?_
      repeat (first | refine Run.seq ?_ | refine Run.skip ?_ | refine Run.block ?_)
      refine Run.region ?_
      refine O.move rfl rfl ?_
      refine O.un rfl rfl rfl rfl rfl ?_
      refine O.nil ?_
      try refine Run.keep [0, 1, 2, 3, 4, 10, 11, 12, 13, 14, 15, 16, 17, 18, 19, 20, 21, 23, 41, 49, 62, 92] rfl rfl ?_
      repeat (first | refine Run.seq ?_ | refine Run.skip ?_)
      first | refine Run.condT rfl rfl ?_ | refine Run.condF rfl rfl ?_ | refine Run.condT rfl (by assumption) ?_ | refine Run.condF rfl (by assumption) ?_
      repeat (first | refine Run.seq ?_ | refine Run.skip ?_ | refine Run.block ?_)
      refine Run.region ?_
      refine O.move rfl rfl ?_
      refine O.move rfl rfl ?_
      refine O.move rfl rfl ?_
      refine O.move rfl rfl ?_
      refine O.index hE T24 rfl T31 rfl rfl newest_pv rfl (by omega) hyl rfl rfl rfl ?_
      first | refine O.loadS hE T31 rfl rfl rfl (by rfl) rfl ?_ | refine O.loadE hE T31 rfl rfl (by rfl) rfl ?_ | refine O.load hE T31 rfl rfl rfl rfl ?_
      refine O.callE cp rfl (by first | rfl | simp [closed, men3, mens2_app, mens2_ints, mens2, men2, men1, mens1_app, mens1_ints, mens1]) (by first | rfl | simp [d2, ds1_ints, ds1_app, ds1, d1, ds0_app, ds0_ints, ds0, d0]) rfl ?_
      refine O.move rfl rfl ?_
      refine O.extract rfl rfl rfl ?_
      refine O.extract rfl rfl rfl ?_
      refine O.assign rfl rfl ?_
      refine O.assign rfl rfl ?_
      refine O.nil ?_
      try refine Run.keep [0, 1, 2, 3, 4, 10, 11, 12, 13, 14, 15, 16, 17, 18, 19, 20, 21, 23, 41, 49, 62, 92] rfl rfl ?_
      repeat (first | refine Run.seq ?_ | refine Run.skip ?_ | refine Run.block ?_)
      refine Run.region ?_
      refine O.move rfl rfl ?_
      refine O.move rfl rfl ?_
      first | refine O.cmp rfl rfl rfl (by first | exact decide_eq_true (by omega) | exact decide_eq_false (by omega)) rfl ?_ | refine O.cmp rfl rfl rfl rfl rfl ?_
      refine O.assign rfl rfl ?_
      refine O.assign rfl rfl ?_
      refine O.nil ?_
      try refine Run.keep [0, 1, 2, 3, 4, 10, 11, 12, 13, 14, 15, 16, 17, 18, 19, 20, 21, 23, 41, 49, 62, 92] rfl rfl ?_
      (repeat (first | refine Run.seq ?_ | refine Run.skip ?_)); (try refine Run.ret ?_); first | exact Ends.flat hE (.inr rfl) rfl rfl (AVle.of_eq rfl) rfl | exact Ends.flat hE (.inl rfl) rfl rfl (AVle.of_eq rfl) rfl
    ·
      have e2 : pathP (digP T mode) Hf (f + 1) ps i = pathP (digP T mode) Hf f (ps.drop (Hf ps.length).toNat) (i - Hf ps.length) ++ [rootP (digP T mode) Hf f (ps.take (Hf ps.length).toNat)] := by simp only [pathP]; rw [if_neg hn1, if_neg hik]
      rw [e2] at hpl
      rw [e1, e2]
      generalize Hf ps.length = k at *
      have l1 : (ps.take k.toNat).length = k.toNat := by rw [List.length_take]; omega
      have l2 : (ps.drop k.toNat).length = ps.length - k.toNat := by rw [List.length_drop]
      have la := (root_len (T := T) (mode := mode) hH f (ps.take k.toNat) (by omega) (he.take _)).1
      have lb := (root_len (T := T) (mode := mode) hH f (ps.drop k.toNat) (by omega) (he.drop _)).1
      have ci := ih (ps.drop k.toNat) (i - k) (by omega) (he.drop _) (by omega) (by omega)
      have hg : (ps.drop k.toNat).getD (i - k).toNat [] = ps.getD i.toNat [] := by
        simp only [List.getD_eq_getElem?_getD, List.getElem?_drop]
        rw [show k.toNat + (i - k).toNat = i.toNat by omega]
      have hk : ((ps.drop k.toNat).length : Int) = ps.length - k := by omega
      rw [hg, hk] at ci
      generalize rootP (digP T mode) Hf f (ps.take k.toNat) = ra at *
      generalize rootP (digP T mode) Hf f (ps.drop k.toNat) = rb at *
      generalize pathP (digP T mode) Hf f (ps.drop k.toNat) (i - k) = Pp at *
      have cp := fnPair hT (mode := mode) (a := ra) (b := rb) hm (by omega) (by omega)
      generalize digP T mode 6 [ra, rb] = R at *
      generalize ps.getD i.toNat [] = P at *
      obtain ⟨N, hN⟩ : ∃ N : Int, (ps.length : Int) = N := ⟨_, rfl⟩
      rw [hN] at ck k2 ci ⊢
      obtain ⟨L, hL⟩ : ∃ L, Pp ++ [ra] = L := ⟨_, rfl⟩
      rw [hL] at hpl ⊢
      have hLl : L.length = Pp.length + 1 := by rw [← hL]; simp
      have hLm : (L.map bys).length = L.length := by simp
      have hyt : ((L.map bys).take ((L.length : Int) - 1).toNat).drop (0 : Int).toNat = Pp.map bys := by
        have : ((L.length : Int) - 1).toNat = (Pp.map bys).length := by simp; omega
        rw [this, ← hL, List.map_append, List.take_left]
        rfl
      have hyl : (L.map bys)[((L.length : Int) - 1).toNat]? = some (bys ra) := by
        have : ((L.length : Int) - 1).toNat = (Pp.map bys).length := by simp; omega
        rw [this, ← hL, List.map_append, List.getElem?_append_right (Nat.le_refl _), Nat.sub_self]
        rfl
      refine FnC.of Tryd.func30 rfl rfl rfl rfl ?_
      repeat (first | refine Run.seq ?_ | refine Run.skip ?_ | refine Run.block ?_)
      refine Run.region ?_
      refine O.assign rfl rfl ?_
      refine O.assign rfl rfl ?_
      refine O.nil ?_
      try refine Run.keep [0, 1, 2, 3, 4, 10, 11, 12, 13, 14, 15, 16, 17, 18, 19, 20, 21, 23, 41, 49, 62, 92] rfl rfl ?_
      repeat (first | refine Run.seq ?_ | refine Run.skip ?_ | refine Run.block ?_)
      refine Run.region ?_
      refine O.move rfl rfl ?_
      first | refine O.cmp rfl rfl rfl (by first | exact decide_eq_true (by omega) | exact decide_eq_false (by omega)) rfl ?_ | refine O.cmp rfl rfl rfl rfl rfl ?_
      refine O.nil ?_
      try refine Run.keep [0, 1, 2, 3, 4, 10, 11, 12, 13, 14, 15, 16, 17, 18, 19, 20, 21, 23, 41, 49, 62, 92] rfl rfl ?_
      repeat (first | refine Run.seq ?_ | refine Run.skip ?_)
      first | refine Run.condT rfl rfl ?_ | refine Run.condF rfl rfl ?_ | refine Run.condT rfl (by assumption) ?_ | refine Run.condF rfl (by assumption) ?_
      repeat (first | refine Run.seq ?_ | refine Run.skip ?_ | refine Run.block ?_)
      refine Run.region ?_
      refine O.move rfl rfl ?_
      first | refine O.lenN hE T24 rfl rfl rfl (by first | exact newest_pv | exact newest_gl rfl rfl | trivial) lenC rfl ?_ | refine O.lenLst hE T24 rfl rfl rfl (by first | exact newest_pv | exact newest_gl rfl rfl | trivial) rfl ?_
      first | refine O.cmp rfl rfl rfl (by first | exact decide_eq_true (by omega) | exact decide_eq_false (by omega)) rfl ?_ | refine O.cmp rfl rfl rfl rfl rfl ?_
      refine O.nil ?_
      try refine Run.keep [0, 1, 2, 3, 4, 10, 11, 12, 13, 14, 15, 16, 17, 18, 19, 20, 21, 23, 41, 49, 62, 92] rfl rfl ?_
      repeat (first | refine Run.seq ?_ | refine Run.skip ?_)
      first | refine Run.condT rfl rfl ?_ | refine Run.condF rfl rfl ?_ | refine Run.condT rfl (by assumption) ?_ | refine Run.condF rfl (by assumption) ?_
      repeat (first | refine Run.seq ?_ | refine Run.skip ?_ | refine Run.block ?_)
      refine Run.region ?_
      refine O.move rfl rfl ?_
      refine O.callE ck rfl (by first | rfl | simp [closed, men3, mens2_app, mens2_ints, mens2, men2, men1, mens1_app, mens1_ints, mens1]) (by first | rfl | simp [d2, ds1_ints, ds1_app, ds1, d1, ds0_app, ds0_ints, ds0, d0]) rfl ?_
      refine O.move rfl rfl ?_
      first | refine O.lenN hE T24 rfl rfl rfl (by first | exact newest_pv | exact newest_gl rfl rfl | trivial) lenC rfl ?_ | refine O.lenLst hE T24 rfl rfl rfl (by first | exact newest_pv | exact newest_gl rfl rfl | trivial) rfl ?_
      first | refine O.ar rfl rfl rfl (by exact wrap_i64 (by omega) (by omega)) rfl ?_ | refine O.ar rfl rfl rfl rfl rfl ?_
      refine O.assign rfl rfl ?_
      refine O.assign rfl rfl ?_
      refine O.nil ?_
      try refine Run.keep [0, 1, 2, 3, 4, 10, 11, 12, 13, 14, 15, 16, 17, 18, 19, 20, 21, 23, 41, 49, 62, 92] rfl rfl ?_
      repeat (first | refine Run.seq ?_ | refine Run.skip ?_ | refine Run.block ?_)
      refine Run.region ?_
      refine O.move rfl rfl ?_
      refine O.move rfl rfl ?_
      first | refine O.cmp rfl rfl rfl (by first | exact decide_eq_true (by omega) | exact decide_eq_false (by omega)) rfl ?_ | refine O.cmp rfl rfl rfl rfl rfl ?_
      refine O.nil ?_
      try refine Run.keep [0, 1, 2, 3, 4, 10, 11, 12, 13, 14, 15, 16, 17, 18, 19, 20, 21, 23, 41, 49, 62, 92] rfl rfl ?_
      repeat (first | refine Run.seq ?_ | refine Run.skip ?_)
      first | refine Run.condT rfl rfl ?_ | refine Run.condF rfl rfl ?_ | refine Run.condT rfl (by assumption) ?_ | refine Run.condF rfl (by assumption) ?_
      repeat (first | refine Run.seq ?_ | refine Run.skip ?_ | refine Run.block ?_)
      refine Run.region ?_
      refine O.move rfl rfl ?_
      refine O.move rfl rfl ?_
      refine O.move rfl rfl ?_
      first | refine O.ar rfl rfl rfl (by exact wrap_i64 (by omega) (by omega)) rfl ?_ | refine O.ar rfl rfl rfl rfl rfl ?_
      refine O.move rfl rfl ?_
      refine O.move rfl rfl ?_
      first | refine O.ar rfl rfl rfl (by exact wrap_i64 (by omega) (by omega)) rfl ?_ | refine O.ar rfl rfl rfl rfl rfl ?_
      refine O.move rfl rfl ?_
      refine O.move rfl rfl ?_
      refine O.move rfl rfl ?_
      refine O.slice hE T24 rfl T31 rfl rfl newest_pv rfl rfl rfl (by omega) (by omega) (by show (L.length : Int) - 1 ≤ ((L.map bys).length : Int); omega) hyt rfl ?_
      refine O.callE ci rfl (by first | rfl | simp [closed, men3, mens2_app, mens2_ints, mens2, men2, men1, mens1_app, mens1_ints, mens1]) (by first | rfl | simp [d2, ds1_ints, ds1_app, ds1, d1, ds0_app, ds0_ints, ds0, d0]) rfl ?_
      refine O.move rfl rfl ?_
      refine O.extract rfl rfl rfl ?_
      refine O.extract rfl rfl rfl ?_
      refine O.assign rfl rfl ?_
      refine O.assign rfl rfl ?_
      refine O.nil ?_
      try refine Run.keep [0, 1, 2, 3, 4, 10, 11, 12, 13, 14, 15, 16, 17, 18, 19, 20, 21, 23, 41, 49, 62, 92] rfl rfl ?_
      repeat (first | refine Run.seq ?_ | refine Run.skip ?_ | refine Run.block ?_)
      refine Run.region ?_
      refine O.move rfl rfl ?_
      refine O.un rfl rfl rfl rfl rfl ?_
      refine O.nil ?_
      try refine Run.keep [0, 1, 2, 3, 4, 10, 11, 12, 13, 14, 15, 16, 17, 18, 19, 20, 21, 23, 41, 49, 62, 92] rfl rfl ?_
      repeat (first | refine Run.seq ?_ | refine Run.skip ?_)
      first | refine Run.condT rfl rfl ?_ | refine Run.condF rfl rfl ?_ | refine Run.condT rfl (by assumption) ?_ | refine Run.condF rfl (by assumption) ?_
      repeat (first | refine Run.seq ?_ | refine Run.skip ?_ | refine Run.block ?_)
      refine Run.region ?_
      refine O.move rfl rfl ?_
      refine O.move rfl rfl ?_
      refine O.move rfl rfl ?_
      refine O.index hE T24 rfl T31 rfl rfl newest_pv rfl (by omega) hyl rfl rfl rfl ?_
      first | refine O.loadS hE T31 rfl rfl rfl (by rfl) rfl ?_ | refine O.loadE hE T31 rfl rfl (by rfl) rfl ?_ | refine O.load hE T31 rfl rfl rfl rfl ?_
      refine O.move rfl rfl ?_
      refine O.callE cp rfl (by first | rfl | simp [closed, men3, mens2_app, mens2_ints, mens2, men2, men1, mens1_app, mens1_ints, mens1]) (by first | rfl | simp [d2, ds1_ints, ds1_app, ds1, d1, ds0_app, ds0_ints, ds0, d0]) rfl ?_
      refine O.move rfl rfl ?_
      refine O.extract rfl rfl rfl ?_
      refine O.extract rfl rfl rfl ?_
      refine O.assign rfl rfl ?_
      refine O.assign rfl rfl ?_
      refine O.nil ?_
      try refine Run.keep [0, 1, 2, 3, 4, 10, 11, 12, 13, 14, 15, 16, 17, 18, 19, 20, 21, 23, 41, 49, 62, 92] rfl rfl ?_
      repeat (first | refine Run.seq ?_ | refine Run.skip ?_ | refine Run.block ?_)
      refine Run.region ?_
      refine O.move rfl rfl ?_
      refine O.move rfl rfl ?_
      first | refine O.cmp rfl rfl rfl (by first | exact decide_eq_true (by omega) | exact decide_eq_false (by omega)) rfl ?_ | refine O.cmp rfl rfl rfl rfl rfl ?_
      refine O.assign rfl rfl ?_
      refine O.assign rfl rfl ?_
      refine O.nil ?_
      try refine Run.keep [0, 1, 2, 3, 4, 10, 11, 12, 13, 14, 15, 16, 17, 18, 19, 20, 21, 23, 41, 49, 62, 92] rfl rfl ?_
      (repeat (first | refine Run.seq ?_ | refine Run.skip ?_)); (try refine Run.ret ?_); first | exact Ends.flat hE (.inr rfl) rfl rfl (AVle.of_eq rfl) rfl | exact Ends.flat hE (.inl rfl) rfl rfl (AVle.of_eq rfl) rfl
theorem fnCheckInclude {T : List Int → List Int → List Int} (hT : Feeds g T) {Hf : Int → Int} (hH : Halves g Hf) {mode : Int} (hm : mode = 1 ∨ mode = 2) {f : Nat} {ps : List (List Int)} {i : Int} (hl : ps.length ≤ f) (he : Entries ps) (h0 : 0 ≤ i) (h1 : i < ps.length) :
    FnC (En Tryd.prog g) 21 [.pv (.int .i64 mode), .pv (bys (rootP (digP T mode) Hf f ps)), .pv (.int .i64 ps.length), .pv (.int .i64 i), .pv (bys (ps.getD i.toNat [])), .pv (.lst 1 ((pathP (digP T mode) Hf f ps i).map bys))] (.pv (.int .i64 0)) [] := by
  have hE := EnOk g
  have c1 := fnModes (g := g) hm
  have c2 := fnIncluded hT hH hm f ps i hl he h0 h1
  have h64 := he.1
  generalize rootP (digP T mode) Hf f ps = R at *
  generalize pathP (digP T mode) Hf f ps i = L at *
  generalize ps.getD i.toNat [] = P at *
  obtain ⟨N, hN⟩ : ∃ N : Int, (ps.length : Int) = N := ⟨_, rfl⟩
  have hN64 : N ≤ 64 := by omega
  rw [hN] at c2 h1 ⊢
  have c3 := fnBytesEq (g := g) R
  refine FnC.of Tryd.func21 rfl rfl rfl rfl ?_
  repeat (first | refine Run.seq ?_ | refine Run.skip ?_ | refine Run.block ?_)
  refine Run.region ?_
  refine O.assign rfl rfl ?_
  refine O.nil ?_
  try refine Run.keep [0, 1, 2, 3, 4, 5, 12, 13, 14, 17, 23, 30, 47] rfl rfl ?_
  repeat (first | refine Run.seq ?_ | refine Run.skip ?_ | refine Run.block ?_)
  refine Run.region ?_
  refine O.move rfl rfl ?_
  refine O.callE c1 rfl (by first | rfl | simp [closed, men3, mens2_app, mens2_ints, mens2, men2, men1, mens1_app, mens1_ints, mens1]) (by first | rfl | simp [d2, ds1_ints, ds1_app, ds1, d1, ds0_app, ds0_ints, ds0, d0]) rfl ?_
  refine O.un rfl rfl rfl rfl rfl ?_
  refine O.nil ?_
  try refine Run.keep [0, 1, 2, 3, 4, 5, 12, 13, 14, 17, 23, 30, 47] rfl rfl ?_
  repeat (first | refine Run.seq ?_ | refine Run.skip ?_)
  first | refine Run.condT rfl rfl ?_ | refine Run.condF rfl rfl ?_ | refine Run.condT rfl (by assumption) ?_ | refine Run.condF rfl (by assumption) ?_
  repeat (first | refine Run.seq ?_ | refine Run.skip ?_ | refine Run.block ?_)
  refine Run.region ?_
  refine O.move rfl rfl ?_
  first | refine O.cmp rfl rfl rfl (by first | exact decide_eq_true (by omega) | exact decide_eq_false (by omega)) rfl ?_ | refine O.cmp rfl rfl rfl rfl rfl ?_
  refine O.move rfl rfl ?_
  first | (refine O.yes rfl rfl (by first | rfl | assumption) ?_; refine O.move rfl rfl ?_) | refine O.no rfl rfl rfl rfl ?_
  first | (refine O.yes rfl rfl (by first | rfl | assumption) ?_; first | refine O.cmp rfl rfl rfl (by first | exact decide_eq_true (by omega) | exact decide_eq_false (by omega)) rfl ?_ | refine O.cmp rfl rfl rfl rfl rfl ?_) | refine O.no rfl rfl rfl rfl ?_
  refine O.pick rfl rfl rfl rfl rfl ?_
  refine O.nil ?_
  try refine Run.keep [0, 1, 2, 3, 4, 5, 12, 13, 14, 17, 23, 30, 47] rfl rfl ?_
  repeat (first | refine Run.seq ?_ | refine Run.skip ?_)
  first | refine Run.condT rfl rfl ?_ | refine Run.condF rfl rfl ?_ | refine Run.condT rfl (by assumption) ?_ | refine Run.condF rfl (by assumption) ?_
  repeat (first | refine Run.seq ?_ | refine Run.skip ?_ | refine Run.block ?_)
  refine Run.region ?_
  refine O.move rfl rfl ?_
  first | refine O.cmp rfl rfl rfl (by first | exact decide_eq_true (by omega) | exact decide_eq_false (by omega)) rfl ?_ | refine O.cmp rfl rfl rfl rfl rfl ?_
  refine O.move rfl rfl ?_
  first | (refine O.yes rfl rfl (by first | rfl | assumption) ?_; refine O.move rfl rfl ?_) | refine O.no rfl rfl rfl rfl ?_
  first | (refine O.yes rfl rfl (by first | rfl | assumption) ?_; refine O.move rfl rfl ?_) | refine O.no rfl rfl rfl rfl ?_
  first | (refine O.yes rfl rfl (by first | rfl | assumption) ?_; first | refine O.cmp rfl rfl rfl (by first | exact decide_eq_true (by omega) | exact decide_eq_false (by omega)) rfl ?_ | refine O.cmp rfl rfl rfl rfl rfl ?_) | refine O.no rfl rfl rfl rfl ?_
  refine O.pick rfl rfl rfl rfl rfl ?_
  refine O.nil ?_
  try refine Run.keep [0, 1, 2, 3, 4, 5, 12, 13, 14, 17, 23, 30, 47] rfl rfl ?_
  repeat (first | refine Run.seq ?_ | refine Run.skip ?_)
  first | refine Run.condT rfl rfl ?_ | refine Run.condF rfl rfl ?_ | refine Run.condT rfl (by assumption) ?_ | refine Run.condF rfl (by assumption) ?_
  repeat (first | refine Run.seq ?_ | refine Run.skip ?_ | refine Run.block ?_)
  refine Run.region ?_
  refine O.move rfl rfl ?_
  refine O.move rfl rfl ?_
  refine O.move rfl rfl ?_
  refine O.move rfl rfl ?_
  refine O.move rfl rfl ?_
  refine O.callE c2 rfl (by first | rfl | simp [closed, men3, mens2_app, mens2_ints, mens2, men2, men1, mens1_app, mens1_ints, mens1]) (by first | rfl | simp [d2, ds1_ints, ds1_app, ds1, d1, ds0_app, ds0_ints, ds0, d0]) rfl ?_
  refine O.move rfl rfl ?_
  refine O.extract rfl rfl rfl ?_
  refine O.extract rfl rfl rfl ?_
  refine O.assign rfl rfl ?_
  refine O.assign rfl rfl ?_
  refine O.nil ?_
  try refine Run.keep [0, 1, 2, 3, 4, 5, 12, 13, 14, 17, 23, 30, 47] rfl rfl ?_
  repeat (first | refine Run.seq ?_ | refine Run.skip ?_ | refine Run.block ?_)
  refine Run.region ?_
  refine O.move rfl rfl ?_
  refine O.un rfl rfl rfl rfl rfl ?_
  refine O.move rfl rfl ?_
  first | (refine O.yes rfl rfl (by first | rfl | assumption) ?_; refine O.move rfl rfl ?_) | refine O.no rfl rfl rfl rfl ?_
  first | (refine O.yes rfl rfl (by first | rfl | assumption) ?_; refine O.move rfl rfl ?_) | refine O.no rfl rfl rfl rfl ?_
  first | (refine O.yes rfl rfl (by first | rfl | assumption) ?_; refine O.callE c3 rfl (by first | rfl | simp [closed, men3, mens2_app, mens2_ints, mens2, men2, men1, mens1_app, mens1_ints, mens1]) (by first | rfl | simp [d2, ds1_ints, ds1_app, ds1, d1, ds0_app, ds0_ints, ds0, d0]) rfl ?_) | refine O.no rfl rfl rfl rfl ?_
  first | (refine O.yes rfl rfl (by first | rfl | assumption) ?_; refine O.un rfl rfl rfl rfl rfl ?_) | refine O.no rfl rfl rfl rfl ?_
  refine O.pick rfl rfl rfl rfl rfl ?_
  refine O.nil ?_
  try refine Run.keep [0, 1, 2, 3, 4, 5, 12, 13, 14, 17, 23, 30, 47] rfl rfl ?_
  repeat (first | refine Run.seq ?_ | refine Run.skip ?_)
  first | refine Run.condT rfl rfl ?_ | refine Run.condF rfl rfl ?_ | refine Run.condT rfl (by assumption) ?_ | refine Run.condF rfl (by assumption) ?_
  repeat (first | refine Run.seq ?_ | refine Run.skip ?_ | refine Run.block ?_)
  refine Run.region ?_
  refine O.assign rfl rfl ?_
  refine O.nil ?_
  try refine Run.keep [0, 1, 2, 3, 4, 5, 12, 13, 14, 17, 23, 30, 47] rfl rfl ?_
  (repeat (first | refine Run.seq ?_ | refine Run.skip ?_)); (try refine Run.ret ?_); first | exact Ends.flat hE (.inr rfl) rfl rfl (AVle.of_eq rfl) rfl | exact Ends.flat hE (.inl rfl) rfl rfl (AVle.of_eq rfl) rfl
end Go.Proofs.YthpenjbpaegpgaaDoor.Vm
