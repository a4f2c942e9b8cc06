/- Rolls: that a list began so, and what proves it: extend, Extend. Conditions: the table of steps has 64 words. -/
import Derived.Test.YtcbdhdblchmofaaDoorRollJ
namespace Go.Proofs.YtcbdhdblchmofaaDoor.Vm
open Go Go.RowKit
set_option linter.unusedVariables false
set_option linter.unusedSimpArgs false
attribute [local irreducible] Ops Dr Run digP
variable {g : Nat → Option (List PV)}
def extP (D : Int → List (List Int) → List Int) (Hf : Int → Int) : Nat → List (List Int) → Int → Bool → List (List Int)
  | 0, ps, m, kn => []
  | f + 1, ps, m, kn => if m = ps.length then (if kn then [] else [rootP D Hf (f + 1) ps]) else if m ≤ Hf ps.length then extP D Hf f (ps.take (Hf ps.length).toNat) m kn ++ [rootP D Hf f (ps.drop (Hf ps.length).toNat)] else extP D Hf f (ps.drop (Hf ps.length).toNat) (m - Hf ps.length) false ++ [rootP D Hf f (ps.take (Hf ps.length).toNat)]
theorem ext_few {D : Int → List (List Int) → List Int} {Hf : Int → Int} (hH : Halves g Hf) : ∀ (f : Nat) (d : Nat) (ps : List (List Int)) (m : Int) (kn : Bool), ps.length ≤ f → 1 ≤ m → m ≤ ps.length → ps.length ≤ 64 → (ps.length : Int) ≤ 2 ^ d → (extP D Hf f ps m kn).length ≤ d + 1
  | 0, d, ps, m, kn, h, h1, h2, h3, h4 => by simp [extP]
  | f + 1, d, ps, m, kn, h, h1, h2, h3, h4 => by
    rw [extP]
    split
    · split <;> simp
    · rename_i hne
      cases d with
      | zero => simp at h4; omega
      | succ d =>
      obtain ⟨⟨j, kj⟩, k1, k2, k3, _⟩ := hH ps.length (by omega) (by omega)
      have kk : Hf ps.length ≤ 2 ^ d := by
        rw [kj]
        have h0 : (2 : Int) ^ j < 2 ^ (d + 1) := by rw [← kj]; omega
        have h1 : ((2 ^ j : Nat) : Int) < ((2 ^ (d + 1) : Nat) : Int) := by simpa using h0
        have h2 : j < d + 1 := (Nat.pow_lt_pow_iff_right (by decide)).1 (Int.ofNat_lt.1 h1)
        have h3 : 2 ^ j ≤ 2 ^ d := Nat.pow_le_pow_right (by decide) (by omega)
        have h4 : ((2 ^ j : Nat) : Int) ≤ ((2 ^ d : Nat) : Int) := Int.ofNat_le.2 h3
        simpa using h4
      generalize Hf ps.length = k at *
      have l1 : (ps.take k.toNat).length = k.toNat := by rw [List.length_take]; omega
      have l2 : (ps.drop k.toNat).length = ps.length - k.toNat := by rw [List.length_drop]
      split
      · have := ext_few (D := D) hH f d (ps.take k.toNat) m kn (by omega) (by omega) (by omega) (by omega) (by omega)
        simp only [List.length_append, List.length_cons, List.length_nil]; omega
      · have := ext_few (D := D) hH f d (ps.drop k.toNat) (m - k) false (by omega) (by omega) (by omega) (by omega) (by omega)
        simp only [List.length_append, List.length_cons, List.length_nil]; omega
theorem ext_le {D : Int → List (List Int) → List Int} {Hf : Int → Int} (hH : Halves g Hf) {f : Nat} {ps : List (List Int)} {m : Int} {kn : Bool} (h : ps.length ≤ f) (h1 : 1 ≤ m) (h2 : m ≤ ps.length) (h3 : ps.length ≤ 64) : (extP D Hf f ps m kn).length ≤ 7 := ext_few hH f 6 ps m kn h h1 h2 h3 (by omega)
theorem fnExtend0 {T : List Int → List Int → List Int} (hT : Feeds g T) {Hf : Int → Int} (hH : Halves g Hf) {mode : Int} (hm : mode = 1 ∨ mode = 2) : ∀ (f : Nat) (ps : List (List Int)) (m : Int) (kn : Bool), ps.length ≤ f → Entries ps → 1 ≤ m → m ≤ ps.length →
    FnC (En Tryd.prog g) 69 [.pv (.int .i64 mode), .pv (.lst 1 (ps.map bys)), .pv (.int .i64 m), .pv (.bool kn)] (.tup [.gl 57 (extP (digP T mode) Hf f ps m kn).length, .pv (.int .i64 0)]) [(57, .lst 27 1 ((extP (digP T mode) Hf f ps m kn).map bys))] := by
  intro f
  induction f with
  | zero => intro ps m kn hl he h0 h1; omega
  | succ f ih =>
    intro ps m kn hl he h0 h1
    have hE := EnOk g
    have hlen : (ps.map bys).length = ps.length := by simp
    by_cases hn1 : m = ps.length
    ·
      cases kn with
      | true =>
        have e2 : extP (digP T mode) Hf (f + 1) ps m true = [] := by simp only [extP]; rw [if_pos hn1, if_pos trivial]
        rw [e2]
        refine FnC.of Tryd.func69 rfl rfl rfl rfl ?_
        repeat (first | refine Run.seq ?_ | refine Run.skip ?_ | refine Run.block ?_)
        refine Run.region ?_
        refine O.assign rfl rfl ?_
        refine O.assign rfl rfl ?_
        refine O.nil ?_
        try refine Run.keep [0, 1, 2, 3, 8, 9, 10, 11, 12, 13, 14, 15, 16, 17, 21, 22, 44, 59, 68] rfl rfl ?_
        repeat (first | refine Run.seq ?_ | refine Run.skip ?_ | refine Run.block ?_)
        refine Run.region ?_
        refine O.move rfl rfl ?_
        refine O.move rfl rfl ?_
        first | refine O.lenN hE T41 rfl rfl rfl (by first | exact newest_pv | exact newest_gl rfl rfl | trivial) lenC rfl ?_ | refine O.lenLst hE T41 rfl rfl rfl (by first | exact newest_pv | exact newest_gl rfl rfl | trivial) rfl ?_
        first | refine O.cmp rfl rfl rfl (by first | exact decide_eq_true (by omega) | exact decide_eq_false (by omega)) rfl ?_ | refine O.cmp rfl rfl rfl rfl rfl ?_
        refine O.nil ?_
        try refine Run.keep [0, 1, 2, 3, 8, 9, 10, 11, 12, 13, 14, 15, 16, 17, 21, 22, 44, 59, 68] rfl rfl ?_
        repeat (first | refine Run.seq ?_ | refine Run.skip ?_)
        first | refine Run.condT rfl rfl ?_ | refine Run.condF rfl rfl ?_ | refine Run.condT rfl (by assumption) ?_ | refine Run.condF rfl (by assumption) ?_
        repeat (first | refine Run.seq ?_ | refine Run.skip ?_ | refine Run.block ?_)
        refine Run.region ?_
        refine O.move rfl rfl ?_
        refine O.nil ?_
        try refine Run.keep [0, 1, 2, 3, 8, 9, 10, 11, 12, 13, 14, 15, 16, 17, 21, 22, 44, 59, 68] rfl rfl ?_
        repeat (first | refine Run.seq ?_ | refine Run.skip ?_)
        first | refine Run.condT rfl rfl ?_ | refine Run.condF rfl rfl ?_ | refine Run.condT rfl (by assumption) ?_ | refine Run.condF rfl (by assumption) ?_
        repeat (first | refine Run.seq ?_ | refine Run.skip ?_ | refine Run.block ?_)
        refine Run.region ?_
        refine O.assign rfl rfl ?_
        refine O.assign rfl rfl ?_
        refine O.nil ?_
        try refine Run.keep [0, 1, 2, 3, 8, 9, 10, 11, 12, 13, 14, 15, 16, 17, 21, 22, 44, 59, 68] rfl rfl ?_
        refine Run.pre (SLe.nilBox (t := 8) (b := 57) (e := 27) (sz := 1) rfl rfl rfl rfl) ?_
        refine Run.ret ?_
        exact Ends.of hE (.inr rfl) rfl rfl (SLe.eqv (by repeat (first | exact TmIn.nil | refine TmIn.cons rfl ?_)) (by repeat (first | exact BxIn.nil | refine BxIn.cons rfl ?_)) rfl)
      | false =>
        have e2 : extP (digP T mode) Hf (f + 1) ps m false = [rootP (digP T mode) Hf (f + 1) ps] := by simp only [extP]; rw [if_pos hn1]; rfl
        rw [e2]
        have cr := fnRollRoot hT hH hm (f + 1) ps (by omega) he
        generalize rootP (digP T mode) Hf (f + 1) ps = rb at *
        refine FnC.of Tryd.func69 rfl rfl rfl rfl ?_
        repeat (first | refine Run.seq ?_ | refine Run.skip ?_ | refine Run.block ?_)
        refine Run.region ?_
        refine O.assign rfl rfl ?_
        refine O.assign rfl rfl ?_
        refine O.nil ?_
        try refine Run.keep [0, 1, 2, 3, 8, 9, 10, 11, 12, 13, 14, 15, 16, 17, 21, 22, 44, 59, 68] rfl rfl ?_
        repeat (first | refine Run.seq ?_ | refine Run.skip ?_ | refine Run.block ?_)
        refine Run.region ?_
        refine O.move rfl rfl ?_
        refine O.move rfl rfl ?_
        first | refine O.lenN hE T41 rfl rfl rfl (by first | exact newest_pv | exact newest_gl rfl rfl | trivial) lenC rfl ?_ | refine O.lenLst hE T41 rfl rfl rfl (by first | exact newest_pv | exact newest_gl rfl rfl | trivial) rfl ?_
        first | refine O.cmp rfl rfl rfl (by first | exact decide_eq_true (by omega) | exact decide_eq_false (by omega)) rfl ?_ | refine O.cmp rfl rfl rfl rfl rfl ?_
        refine O.nil ?_
        try refine Run.keep [0, 1, 2, 3, 8, 9, 10, 11, 12, 13, 14, 15, 16, 17, 21, 22, 44, 59, 68] rfl rfl ?_
        repeat (first | refine Run.seq ?_ | refine Run.skip ?_)
        first | refine Run.condT rfl rfl ?_ | refine Run.condF rfl rfl ?_ | refine Run.condT rfl (by assumption) ?_ | refine Run.condF rfl (by assumption) ?_
        repeat (first | refine Run.seq ?_ | refine Run.skip ?_ | refine Run.block ?_)
        refine Run.region ?_
        refine O.move rfl rfl ?_
        refine O.nil ?_
        try refine Run.keep [0, 1, 2, 3, 8, 9, 10, 11, 12, 13, 14, 15, 16, 17, 21, 22, 44, 59, 68] rfl rfl ?_
        repeat (first | refine Run.seq ?_ | refine Run.skip ?_)
        first | refine Run.condT rfl rfl ?_ | refine Run.condF rfl rfl ?_ | refine Run.condT rfl (by assumption) ?_ | refine Run.condF rfl (by assumption) ?_
        repeat (first | refine Run.seq ?_ | refine Run.skip ?_ | refine Run.block ?_)
        refine Run.region ?_
        refine O.move rfl rfl ?_
        refine O.move rfl rfl ?_
        refine O.callE cr rfl (by first | rfl | simp [closed, men3, mens2_app, mens2_ints, mens2, men2, men1, mens1_app, mens1_ints, mens1]) (by first | rfl | simp [d2, ds1_ints, ds1_app, ds1, d1, ds0_app, ds0_ints, ds0, d0]) rfl ?_
        refine O.move rfl rfl ?_
        refine O.extract rfl rfl rfl ?_
        refine O.extract rfl rfl rfl ?_
        refine O.assign rfl rfl ?_
        refine O.assign rfl rfl ?_
        refine O.nil ?_
        try refine Run.keep [0, 1, 2, 3, 8, 9, 10, 11, 12, 13, 14, 15, 16, 17, 21, 22, 44, 59, 68] rfl rfl ?_
        repeat (first | refine Run.seq ?_ | refine Run.skip ?_ | refine Run.block ?_)
        refine Run.region ?_
        refine O.move rfl rfl ?_
        refine O.lit hE 57 T41 rfl T27 rfl rfl rfl rfl rfl rfl rfl rfl ?_
        refine O.move rfl rfl ?_
        refine O.assign rfl rfl ?_
        refine O.assign rfl rfl ?_
        refine O.nil ?_
        try refine Run.keep [0, 1, 2, 3, 8, 9, 10, 11, 12, 13, 14, 15, 16, 17, 21, 22, 44, 59, 68] rfl rfl ?_
        refine Run.ret ?_
        exact Ends.of hE (.inr rfl) rfl rfl (SLe.eqv (by repeat (first | exact TmIn.nil | refine TmIn.cons rfl ?_)) (by repeat (first | exact BxIn.nil | refine BxIn.cons rfl ?_)) rfl)
    obtain ⟨_, k1, k2, k3, ck⟩ := hH ps.length (by omega) (by have := he.1; omega)
    have hpl := ext_le (D := digP T mode) (kn := kn) hH (f := f + 1) hl h0 h1 he.1
    have h64 := he.1
    by_cases hik : m ≤ Hf ps.length
    ·
      have e2 : extP (digP T mode) Hf (f + 1) ps m kn = extP (digP T mode) Hf f (ps.take (Hf ps.length).toNat) m kn ++ [rootP (digP T mode) Hf f (ps.drop (Hf ps.length).toNat)] := by simp only [extP]; rw [if_neg hn1, if_pos hik]
      rw [e2] at hpl ⊢
      generalize Hf ps.length = k at *
      have l1 : (ps.take k.toNat).length = k.toNat := by rw [List.length_take]; omega
      have l2 : (ps.drop k.toNat).length = ps.length - k.toNat := by rw [List.length_drop]
      have ci := ih (ps.take k.toNat) m kn (by omega) (he.take _) (by omega) (by omega)
      have cr := fnRollRoot hT hH hm f (ps.drop k.toNat) (by omega) (he.drop _)
      generalize rootP (digP T mode) Hf f (ps.drop k.toNat) = rb at *
      generalize extP (digP T mode) Hf f (ps.take k.toNat) m kn = Pp at *
      have hPl : Pp.length + 1 ≤ 64 := by simp only [List.length_append, List.length_cons, List.length_nil] at hpl; omega
      have ha : (ps.map bys).take k.toNat = (ps.take k.toNat).map bys := List.map_take.symm
      have hb : ((ps.map bys).take ((ps.map bys).length : Int).toNat).drop k.toNat = (ps.drop k.toNat).map bys := by rw [Int.toNat_natCast, List.take_length, List.map_drop]
      refine FnC.of Tryd.func69 rfl rfl rfl rfl ?_
      repeat (first | refine Run.seq ?_ | refine Run.skip ?_ | refine Run.block ?_)
      refine Run.region ?_
      refine O.assign rfl rfl ?_
      refine O.assign rfl rfl ?_
      refine O.nil ?_
      try refine Run.keep [0, 1, 2, 3, 8, 9, 10, 11, 12, 13, 14, 15, 16, 17, 21, 22, 44, 59, 68] rfl rfl ?_
      repeat (first | refine Run.seq ?_ | refine Run.skip ?_ | refine Run.block ?_)
      refine Run.region ?_
      refine O.move rfl rfl ?_
      refine O.move rfl rfl ?_
      first | refine O.lenN hE T41 rfl rfl rfl (by first | exact newest_pv | exact newest_gl rfl rfl | trivial) lenC rfl ?_ | refine O.lenLst hE T41 rfl rfl rfl (by first | exact newest_pv | exact newest_gl rfl rfl | trivial) rfl ?_
      first | refine O.cmp rfl rfl rfl (by first | exact decide_eq_true (by omega) | exact decide_eq_false (by omega)) rfl ?_ | refine O.cmp rfl rfl rfl rfl rfl ?_
      refine O.nil ?_
      try refine Run.keep [0, 1, 2, 3, 8, 9, 10, 11, 12, 13, 14, 15, 16, 17, 21, 22, 44, 59, 68] rfl rfl ?_
      repeat (first | refine Run.seq ?_ | refine Run.skip ?_)
      first | refine Run.condT rfl rfl ?_ | refine Run.condF rfl rfl ?_ | refine Run.condT rfl (by assumption) ?_ | refine Run.condF rfl (by assumption) ?_
      repeat (first | refine Run.seq ?_ | refine Run.skip ?_ | refine Run.block ?_)
      refine Run.region ?_
      refine O.move rfl rfl ?_
      first | refine O.lenN hE T41 rfl rfl rfl (by first | exact newest_pv | exact newest_gl rfl rfl | trivial) lenC rfl ?_ | refine O.lenLst hE T41 rfl rfl rfl (by first | exact newest_pv | exact newest_gl rfl rfl | trivial) rfl ?_
      refine O.callE ck rfl (by first | rfl | simp [closed, men3, mens2_app, mens2_ints, mens2, men2, men1, mens1_app, mens1_ints, mens1]) (by first | rfl | simp [d2, ds1_ints, ds1_app, ds1, d1, ds0_app, ds0_ints, ds0, d0]) rfl ?_
      refine O.assign rfl rfl ?_
      refine O.nil ?_
      try refine Run.keep [0, 1, 2, 3, 8, 9, 10, 11, 12, 13, 14, 15, 16, 17, 21, 22, 44, 59, 68] rfl rfl ?_
      repeat (first | refine Run.seq ?_ | refine Run.skip ?_ | refine Run.block ?_)
      refine Run.draw mixed rfl ?_
      refine D.move rfl rfl ?_
      refine D.move rfl rfl ?_
      refine D.move rfl rfl ?_
      refine D.slice3 hE T41 rfl T27 rfl rfl rfl rfl (by omega) (by omega) ha rfl ?_
      refine D.move rfl rfl ?_
      refine D.move rfl rfl ?_
      refine D.sliceP hE T41 rfl T27 rfl rfl rfl rfl (by omega) (by omega) (Int.le_refl _) hb rfl ?_
      refine D.assign rfl rfl ?_
      refine D.assign rfl rfl ?_
      refine Dr.nil ?_
      refine ⟨rfl, ?_⟩
      try refine Run.keep [0, 1, 2, 3, 8, 9, 10, 11, 12, 13, 14, 15, 16, 17, 21, 22, 44, 59, 68] rfl rfl ?_
      repeat (first | refine Run.seq ?_ | refine Run.skip ?_ | refine Run.block ?_)
      refine Run.region ?_
      refine O.move rfl rfl ?_
      refine O.move rfl rfl ?_
      first | refine O.cmp rfl rfl rfl (by first | exact decide_eq_true (by omega) | exact decide_eq_false (by omega)) rfl ?_ | refine O.cmp rfl rfl rfl rfl rfl ?_
      refine O.nil ?_
      try refine Run.keep [0, 1, 2, 3, 8, 9, 10, 11, 12, 13, 14, 15, 16, 17, 21, 22, 44, 59, 68] rfl rfl ?_
      repeat (first | refine Run.seq ?_ | refine Run.skip ?_)
      first | refine Run.condT rfl rfl ?_ | refine Run.condF rfl rfl ?_ | refine Run.condT rfl (by assumption) ?_ | refine Run.condF rfl (by assumption) ?_
      repeat (first | refine Run.seq ?_ | refine Run.skip ?_ | refine Run.block ?_)
      refine Run.region ?_
      refine O.move rfl rfl ?_
      refine O.move rfl rfl ?_
      refine O.move rfl rfl ?_
      refine O.move rfl rfl ?_
      refine O.call (bs' := []) (r' := .tup [.gl 57 Pp.length, .pv (.int .i64 0)]) (bs2 := [(57, .lst 27 1 (Pp.map bys))]) 0 ci (evsO_les _ _ rfl) rfl rfl rfl rfl rfl rfl rfl ?_
      refine O.move rfl rfl ?_
      refine O.extract rfl rfl rfl ?_
      refine O.extract rfl rfl rfl ?_
      refine O.assign rfl rfl ?_
      refine O.assign rfl rfl ?_
      refine O.nil ?_
      try refine Run.keep [0, 1, 2, 3, 8, 9, 10, 11, 12, 13, 14, 15, 16, 17, 21, 22, 44, 59, 68] rfl rfl ?_
      repeat (first | refine Run.seq ?_ | refine Run.skip ?_ | refine Run.block ?_)
      refine Run.region ?_
      refine O.move rfl rfl ?_
      first | refine O.cmp rfl rfl rfl (by first | exact decide_eq_true (by omega) | exact decide_eq_false (by omega)) rfl ?_ | refine O.cmp rfl rfl rfl rfl rfl ?_
      refine O.nil ?_
      try refine Run.keep [0, 1, 2, 3, 8, 9, 10, 11, 12, 13, 14, 15, 16, 17, 21, 22, 44, 59, 68] rfl rfl ?_
      repeat (first | refine Run.seq ?_ | refine Run.skip ?_)
      first | refine Run.condT rfl rfl ?_ | refine Run.condF rfl rfl ?_ | refine Run.condT rfl (by assumption) ?_ | refine Run.condF rfl (by assumption) ?_
      repeat (first | refine Run.seq ?_ | refine Run.skip ?_ | refine Run.block ?_)
      refine Run.region ?_
      refine O.move rfl rfl ?_
      refine O.move rfl rfl ?_
      refine O.callE cr rfl (by first | rfl | simp [closed, men3, mens2_app, mens2_ints, mens2, men2, men1, mens1_app, mens1_ints, mens1]) (by first | rfl | simp [d2, ds1_ints, ds1_app, ds1, d1, ds0_app, ds0_ints, ds0, d0]) rfl ?_
      refine O.move rfl rfl ?_
      refine O.extract rfl rfl rfl ?_
      refine O.extract rfl rfl rfl ?_
      refine O.assign rfl rfl ?_
      refine O.assign rfl rfl ?_
      refine O.nil ?_
      try refine Run.keep [0, 1, 2, 3, 8, 9, 10, 11, 12, 13, 14, 15, 16, 17, 21, 22, 44, 59, 68] rfl rfl ?_
      repeat (first | refine Run.seq ?_ | refine Run.skip ?_ | refine Run.block ?_)
      refine Run.region ?_
      refine O.move rfl rfl ?_
      first | refine O.cmp rfl rfl rfl (by first | exact decide_eq_true (by omega) | exact decide_eq_false (by omega)) rfl ?_ | refine O.cmp rfl rfl rfl rfl rfl ?_
      refine O.nil ?_
      try refine Run.keep [0, 1, 2, 3, 8, 9, 10, 11, 12, 13, 14, 15, 16, 17, 21, 22, 44, 59, 68] rfl rfl ?_
      repeat (first | refine Run.seq ?_ | refine Run.skip ?_)
      first | refine Run.condT rfl rfl ?_ | refine Run.condF rfl rfl ?_ | refine Run.condT rfl (by assumption) ?_ | refine Run.condF rfl (by assumption) ?_
      repeat (first | refine Run.seq ?_ | refine Run.skip ?_ | refine Run.block ?_)
      refine Run.region ?_
      refine O.move rfl rfl ?_
      refine O.move rfl rfl ?_
      refine O.litV hE T41 rfl T27 rfl rfl rfl rfl rfl rfl rfl ?_
      refine O.appP (r := [rb]) hE T41 rfl T27 rfl rfl rfl rfl rfl newest_pv rfl rfl rfl rfl (by simp; omega) (by simp [maxLen]; omega) rfl ?_
      refine O.assign rfl rfl ?_
      refine O.assign rfl rfl ?_
      refine O.nil ?_
      try refine Run.keep [0, 1, 2, 3, 8, 9, 10, 11, 12, 13, 14, 15, 16, 17, 21, 22, 44, 59, 68] rfl rfl ?_
      refine Run.ret ?_
      exact Ends.of hE (.inr rfl) rfl rfl (SLe.eqv (by repeat (first | exact TmIn.nil | refine TmIn.cons rfl ?_)) (by repeat (first | exact BxIn.nil | refine BxIn.cons rfl ?_)) rfl)
    ·
      have e2 : extP (digP T mode) Hf (f + 1) ps m kn = extP (digP T mode) Hf f (ps.drop (Hf ps.length).toNat) (m - Hf ps.length) false ++ [rootP (digP T mode) Hf f (ps.take (Hf ps.length).toNat)] := by simp only [extP]; rw [if_neg hn1, if_neg hik]
      rw [e2] at hpl ⊢
      generalize Hf ps.length = k at *
      have l1 : (ps.take k.toNat).length = k.toNat := by rw [List.length_take]; omega
      have l2 : (ps.drop k.toNat).length = ps.length - k.toNat := by rw [List.length_drop]
      have ci := ih (ps.drop k.toNat) (m - k) false (by omega) (he.drop _) (by omega) (by omega)
      have cr := fnRollRoot hT hH hm f (ps.take k.toNat) (by omega) (he.take _)
      generalize rootP (digP T mode) Hf f (ps.take k.toNat) = rb at *
      generalize extP (digP T mode) Hf f (ps.drop k.toNat) (m - k) false = Pp at *
      have hPl : Pp.length + 1 ≤ 64 := by simp only [List.length_append, List.length_cons, List.length_nil] at hpl; omega
      have ha : (ps.map bys).take k.toNat = (ps.take k.toNat).map bys := List.map_take.symm
      have hb : ((ps.map bys).take ((ps.map bys).length : Int).toNat).drop k.toNat = (ps.drop k.toNat).map bys := by rw [Int.toNat_natCast, List.take_length, List.map_drop]
      refine FnC.of Tryd.func69 rfl rfl rfl rfl ?_
      repeat (first | refine Run.seq ?_ | refine Run.skip ?_ | refine Run.block ?_)
      refine Run.region ?_
      refine O.assign rfl rfl ?_
      refine O.assign rfl rfl ?_
      refine O.nil ?_
      try refine Run.keep [0, 1, 2, 3, 8, 9, 10, 11, 12, 13, 14, 15, 16, 17, 21, 22, 44, 59, 68] rfl rfl ?_
      repeat (first | refine Run.seq ?_ | refine Run.skip ?_ | refine Run.block ?_)
      refine Run.region ?_
      refine O.move rfl rfl ?_
      refine O.move rfl rfl ?_
      first | refine O.lenN hE T41 rfl rfl rfl (by first | exact newest_pv | exact newest_gl rfl rfl | trivial) lenC rfl ?_ | refine O.lenLst hE T41 rfl rfl rfl (by first | exact newest_pv | exact newest_gl rfl rfl | trivial) rfl ?_
      first | refine O.cmp rfl rfl rfl (by first | exact decide_eq_true (by omega) | exact decide_eq_false (by omega)) rfl ?_ | refine O.cmp rfl rfl rfl rfl rfl ?_
      refine O.nil ?_
      try refine Run.keep [0, 1, 2, 3, 8, 9, 10, 11, 12, 13, 14, 15, 16, 17, 21, 22, 44, 59, 68] rfl rfl ?_
      repeat (first | refine Run.seq ?_ | refine Run.skip ?_)
      first | refine Run.condT rfl rfl ?_ | refine Run.condF rfl rfl ?_ | refine Run.condT rfl (by assumption) ?_ | refine Run.condF rfl (by assumption) ?_
      repeat (first | refine Run.seq ?_ | refine Run.skip ?_ | refine Run.block ?_)
      refine Run.region ?_
      refine O.move rfl rfl ?_
      first | refine O.lenN hE T41 rfl rfl rfl (by first | exact newest_pv | exact newest_gl rfl rfl | trivial) lenC rfl ?_ | refine O.lenLst hE T41 rfl rfl rfl (by first | exact newest_pv | exact newest_gl rfl rfl | trivial) rfl ?_
      refine O.callE ck rfl (by first | rfl | simp [closed, men3, mens2_app, mens2_ints, mens2, men2, men1, mens1_app, mens1_ints, mens1]) (by first | rfl | simp [d2, ds1_ints, ds1_app, ds1, d1, ds0_app, ds0_ints, ds0, d0]) rfl ?_
      refine O.assign rfl rfl ?_
      refine O.nil ?_
      try refine Run.keep [0, 1, 2, 3, 8, 9, 10, 11, 12, 13, 14, 15, 16, 17, 21, 22, 44, 59, 68] rfl rfl ?_
      repeat (first | refine Run.seq ?_ | refine Run.skip ?_ | refine Run.block ?_)
      refine Run.draw mixed rfl ?_
      refine D.move rfl rfl ?_
      refine D.move rfl rfl ?_
      refine D.move rfl rfl ?_
      refine D.slice3 hE T41 rfl T27 rfl rfl rfl rfl (by omega) (by omega) ha rfl ?_
      refine D.move rfl rfl ?_
      refine D.move rfl rfl ?_
      refine D.sliceP hE T41 rfl T27 rfl rfl rfl rfl (by omega) (by omega) (Int.le_refl _) hb rfl ?_
      refine D.assign rfl rfl ?_
      refine D.assign rfl rfl ?_
      refine Dr.nil ?_
      refine ⟨rfl, ?_⟩
      try refine Run.keep [0, 1, 2, 3, 8, 9, 10, 11, 12, 13, 14, 15, 16, 17, 21, 22, 44, 59, 68] rfl rfl ?_
      repeat (first | refine Run.seq ?_ | refine Run.skip ?_ | refine Run.block ?_)
      refine Run.region ?_
      refine O.move rfl rfl ?_
      refine O.move rfl rfl ?_
      first | refine O.cmp rfl rfl rfl (by first | exact decide_eq_true (by omega) | exact decide_eq_false (by omega)) rfl ?_ | refine O.cmp rfl rfl rfl rfl rfl ?_
      refine O.nil ?_
      try refine Run.keep [0, 1, 2, 3, 8, 9, 10, 11, 12, 13, 14, 15, 16, 17, 21, 22, 44, 59, 68] rfl rfl ?_
      repeat (first | refine Run.seq ?_ | refine Run.skip ?_)
      first | refine Run.condT rfl rfl ?_ | refine Run.condF rfl rfl ?_ | refine Run.condT rfl (by assumption) ?_ | refine Run.condF rfl (by assumption) ?_
      repeat (first | refine Run.seq ?_ | refine Run.skip ?_ | refine Run.block ?_)
      refine Run.region ?_
      refine O.move rfl rfl ?_
      refine O.move rfl rfl ?_
      refine O.move rfl rfl ?_
      refine O.move rfl rfl ?_
      first | refine O.ar rfl rfl rfl (by exact wrap_i64 (by omega) (by omega)) rfl ?_ | refine O.ar rfl rfl rfl rfl rfl ?_
      refine O.assign rfl rfl ?_
      refine O.assign rfl rfl ?_
      refine O.assign rfl rfl ?_
      refine O.assign rfl rfl ?_
      refine O.nil ?_
      try refine Run.keep [0, 1, 2, 3, 8, 9, 10, 11, 12, 13, 14, 15, 16, 17, 21, 22, 44, 59, 68] rfl rfl ?_
      repeat (first | refine Run.seq ?_ | refine Run.skip ?_ | refine Run.block ?_)
      refine Run.region ?_
      refine O.move rfl rfl ?_
      refine O.move rfl rfl ?_
      refine O.move rfl rfl ?_
      refine O.move rfl rfl ?_
      refine O.call (bs' := []) (r' := .tup [.gl 57 Pp.length, .pv (.int .i64 0)]) (bs2 := [(57, .lst 27 1 (Pp.map bys))]) 0 ci (evsO_les _ _ rfl) rfl rfl rfl rfl rfl rfl rfl ?_
      refine O.move rfl rfl ?_
      refine O.extract rfl rfl rfl ?_
      refine O.extract rfl rfl rfl ?_
      refine O.assign rfl rfl ?_
      refine O.assign rfl rfl ?_
      refine O.nil ?_
      try refine Run.keep [0, 1, 2, 3, 8, 9, 10, 11, 12, 13, 14, 15, 16, 17, 21, 22, 44, 59, 68] rfl rfl ?_
      repeat (first | refine Run.seq ?_ | refine Run.skip ?_ | refine Run.block ?_)
      refine Run.region ?_
      refine O.move rfl rfl ?_
      first | refine O.cmp rfl rfl rfl (by first | exact decide_eq_true (by omega) | exact decide_eq_false (by omega)) rfl ?_ | refine O.cmp rfl rfl rfl rfl rfl ?_
      refine O.nil ?_
      try refine Run.keep [0, 1, 2, 3, 8, 9, 10, 11, 12, 13, 14, 15, 16, 17, 21, 22, 44, 59, 68] rfl rfl ?_
      repeat (first | refine Run.seq ?_ | refine Run.skip ?_)
      first | refine Run.condT rfl rfl ?_ | refine Run.condF rfl rfl ?_ | refine Run.condT rfl (by assumption) ?_ | refine Run.condF rfl (by assumption) ?_
      repeat (first | refine Run.seq ?_ | refine Run.skip ?_ | refine Run.block ?_)
      refine Run.region ?_
      refine O.move rfl rfl ?_
      refine O.move rfl rfl ?_
      refine O.callE cr rfl (by first | rfl | simp [closed, men3, mens2_app, mens2_ints, mens2, men2, men1, mens1_app, mens1_ints, mens1]) (by first | rfl | simp [d2, ds1_ints, ds1_app, ds1, d1, ds0_app, ds0_ints, ds0, d0]) rfl ?_
      refine O.move rfl rfl ?_
      refine O.extract rfl rfl rfl ?_
      refine O.extract rfl rfl rfl ?_
      refine O.assign rfl rfl ?_
      refine O.assign rfl rfl ?_
      refine O.nil ?_
      try refine Run.keep [0, 1, 2, 3, 8, 9, 10, 11, 12, 13, 14, 15, 16, 17, 21, 22, 44, 59, 68] rfl rfl ?_
      repeat (first | refine Run.seq ?_ | refine Run.skip ?_ | refine Run.block ?_)
      refine Run.region ?_
      refine O.move rfl rfl ?_
      first | refine O.cmp rfl rfl rfl (by first | exact decide_eq_true (by omega) | exact decide_eq_false (by omega)) rfl ?_ | refine O.cmp rfl rfl rfl rfl rfl ?_
      refine O.nil ?_
      try refine Run.keep [0, 1, 2, 3, 8, 9, 10, 11, 12, 13, 14, 15, 16, 17, 21, 22, 44, 59, 68] rfl rfl ?_
      repeat (first | refine Run.seq ?_ | refine Run.skip ?_)
      first | refine Run.condT rfl rfl ?_ | refine Run.condF rfl rfl ?_ | refine Run.condT rfl (by assumption) ?_ | refine Run.condF rfl (by assumption) ?_
      repeat (first | refine Run.seq ?_ | refine Run.skip ?_ | refine Run.block ?_)
      refine Run.region ?_
      refine O.move rfl rfl ?_
      refine O.move rfl rfl ?_
      refine O.litV hE T41 rfl T27 rfl rfl rfl rfl rfl rfl rfl ?_
      refine O.appP (r := [rb]) hE T41 rfl T27 rfl rfl rfl rfl rfl newest_pv rfl rfl rfl rfl (by simp; omega) (by simp [maxLen]; omega) rfl ?_
      refine O.assign rfl rfl ?_
      refine O.assign rfl rfl ?_
      refine O.nil ?_
      try refine Run.keep [0, 1, 2, 3, 8, 9, 10, 11, 12, 13, 14, 15, 16, 17, 21, 22, 44, 59, 68] rfl rfl ?_
      refine Run.ret ?_
      exact Ends.of hE (.inr rfl) rfl rfl (SLe.eqv (by repeat (first | exact TmIn.nil | refine TmIn.cons rfl ?_)) (by repeat (first | exact BxIn.nil | refine BxIn.cons rfl ?_)) rfl)
/-- What Extend answers. -/
def extend (D : Int → List (List Int) → List Int) (Hf : Int → Int) (f : Nat) (ps : List (List Int)) (m : Int) : List (List Int) := if m = 0 then [] else extP D Hf f ps m true
theorem fnExtend {T : List Int → List Int → List Int} (hT : Feeds g T) {Hf : Int → Int} (hH : Halves g Hf) {mode : Int} (hm : mode = 1 ∨ mode = 2) {f : Nat} {ps : List (List Int)} {m : Int} (hl : ps.length ≤ f) (he : Entries ps) (h0 : 0 ≤ m) (h1 : m ≤ ps.length) :
    FnC (En Tryd.prog g) 40 [.pv (.int .i64 mode), .pv (.lst 1 (ps.map bys)), .pv (.int .i64 m)] (.tup [.pv (.lst 1 ((extend (digP T mode) Hf f ps m).map bys)), .pv (.int .i64 0)]) [] := by
  have hE := EnOk g
  have hlen : (ps.map bys).length = ps.length := by simp
  have c1 := fnFault (g := g) hm he.1
  have c2 := fnRollRoot hT hH hm f ps hl he
  generalize rootP (digP T mode) Hf f ps = R at *
  by_cases hz : m = 0
  ·
    have e : extend (digP T mode) Hf f ps m = [] := by unfold extend; rw [if_pos hz]
    rw [e]
    refine FnC.of Tryd.func40 rfl rfl rfl rfl ?_
    repeat (first | refine Run.seq ?_ | refine Run.skip ?_ | refine Run.block ?_)
    refine Run.region ?_
    refine O.assign rfl rfl ?_
    refine O.assign rfl rfl ?_
    refine O.nil ?_
    try refine Run.keep [0, 1, 2, 6, 7, 8, 10, 15, 24, 32, 35] rfl rfl ?_
    repeat (first | refine Run.seq ?_ | refine Run.skip ?_ | refine Run.block ?_)
    refine Run.region ?_
    refine O.move rfl rfl ?_
    refine O.move rfl rfl ?_
    refine O.callE c1 rfl (by first | rfl | simp [closed, men3, mens2_app, mens2_ints, mens2, men2, men1, mens1_app, mens1_ints, mens1]) (by first | rfl | simp [d2, ds1_ints, ds1_app, ds1, d1, ds0_app, ds0_ints, ds0, d0]) rfl ?_
    refine O.assign rfl rfl ?_
    refine O.nil ?_
    try refine Run.keep [0, 1, 2, 6, 7, 8, 10, 15, 24, 32, 35] rfl rfl ?_
    repeat (first | refine Run.seq ?_ | refine Run.skip ?_ | refine Run.block ?_)
    refine Run.region ?_
    refine O.move rfl rfl ?_
    first | refine O.cmp rfl rfl rfl (by first | exact decide_eq_true (by omega) | exact decide_eq_false (by omega)) rfl ?_ | refine O.cmp rfl rfl rfl rfl rfl ?_
    refine O.nil ?_
    try refine Run.keep [0, 1, 2, 6, 7, 8, 10, 15, 24, 32, 35] rfl rfl ?_
    repeat (first | refine Run.seq ?_ | refine Run.skip ?_)
    first | refine Run.condT rfl rfl ?_ | refine Run.condF rfl rfl ?_ | refine Run.condT rfl (by assumption) ?_ | refine Run.condF rfl (by assumption) ?_
    repeat (first | refine Run.seq ?_ | refine Run.skip ?_ | refine Run.block ?_)
    refine Run.region ?_
    refine O.move rfl rfl ?_
    first | refine O.cmp rfl rfl rfl (by first | exact decide_eq_true (by omega) | exact decide_eq_false (by omega)) rfl ?_ | refine O.cmp rfl rfl rfl rfl rfl ?_
    refine O.move rfl rfl ?_
    first | (refine O.yes rfl rfl (by first | rfl | assumption) ?_; refine O.move rfl rfl ?_) | refine O.no rfl rfl rfl rfl ?_
    first | (refine O.yes rfl rfl (by first | rfl | assumption) ?_; refine O.move rfl rfl ?_) | refine O.no rfl rfl rfl rfl ?_
    first | (refine O.yes rfl rfl (by first | rfl | assumption) ?_; first | refine O.lenN hE T41 rfl rfl rfl (by first | exact newest_pv | exact newest_gl rfl rfl | trivial) lenC rfl ?_ | refine O.lenLst hE T41 rfl rfl rfl (by first | exact newest_pv | exact newest_gl rfl rfl | trivial) rfl ?_) | refine O.no rfl rfl rfl rfl ?_
    first | (refine O.yes rfl rfl (by first | rfl | assumption) ?_; first | refine O.cmp rfl rfl rfl (by first | exact decide_eq_true (by omega) | exact decide_eq_false (by omega)) rfl ?_ | refine O.cmp rfl rfl rfl rfl rfl ?_) | refine O.no rfl rfl rfl rfl ?_
    refine O.pick rfl rfl rfl rfl rfl ?_
    refine O.nil ?_
    try refine Run.keep [0, 1, 2, 6, 7, 8, 10, 15, 24, 32, 35] rfl rfl ?_
    repeat (first | refine Run.seq ?_ | refine Run.skip ?_)
    first | refine Run.condT rfl rfl ?_ | refine Run.condF rfl rfl ?_ | refine Run.condT rfl (by assumption) ?_ | refine Run.condF rfl (by assumption) ?_
    repeat (first | refine Run.seq ?_ | refine Run.skip ?_ | refine Run.block ?_)
    refine Run.region ?_
    refine O.move rfl rfl ?_
    refine O.move rfl rfl ?_
    refine O.callE c2 rfl (by first | rfl | simp [closed, men3, mens2_app, mens2_ints, mens2, men2, men1, mens1_app, mens1_ints, mens1]) (by first | rfl | simp [d2, ds1_ints, ds1_app, ds1, d1, ds0_app, ds0_ints, ds0, d0]) rfl ?_
    refine O.move rfl rfl ?_
    refine O.extract rfl rfl rfl ?_
    refine O.extract rfl rfl rfl ?_
    refine O.assign rfl rfl ?_
    refine O.assign rfl rfl ?_
    refine O.nil ?_
    try refine Run.keep [0, 1, 2, 6, 7, 8, 10, 15, 24, 32, 35] rfl rfl ?_
    repeat (first | refine Run.seq ?_ | refine Run.skip ?_ | refine Run.block ?_)
    refine Run.region ?_
    refine O.move rfl rfl ?_
    first | refine O.cmp rfl rfl rfl (by first | exact decide_eq_true (by omega) | exact decide_eq_false (by omega)) rfl ?_ | refine O.cmp rfl rfl rfl rfl rfl ?_
    refine O.nil ?_
    try refine Run.keep [0, 1, 2, 6, 7, 8, 10, 15, 24, 32, 35] rfl rfl ?_
    repeat (first | refine Run.seq ?_ | refine Run.skip ?_)
    first | refine Run.condT rfl rfl ?_ | refine Run.condF rfl rfl ?_ | refine Run.condT rfl (by assumption) ?_ | refine Run.condF rfl (by assumption) ?_
    repeat (first | refine Run.seq ?_ | refine Run.skip ?_ | refine Run.block ?_)
    refine Run.region ?_
    refine O.move rfl rfl ?_
    first | refine O.cmp rfl rfl rfl (by first | exact decide_eq_true (by omega) | exact decide_eq_false (by omega)) rfl ?_ | refine O.cmp rfl rfl rfl rfl rfl ?_
    refine O.nil ?_
    try refine Run.keep [0, 1, 2, 6, 7, 8, 10, 15, 24, 32, 35] rfl rfl ?_
    repeat (first | refine Run.seq ?_ | refine Run.skip ?_)
    first | refine Run.condT rfl rfl ?_ | refine Run.condF rfl rfl ?_ | refine Run.condT rfl (by assumption) ?_ | refine Run.condF rfl (by assumption) ?_
    repeat (first | refine Run.seq ?_ | refine Run.skip ?_ | refine Run.block ?_)
    refine Run.region ?_
    refine O.assign rfl rfl ?_
    refine O.assign rfl rfl ?_
    refine O.nil ?_
    try refine Run.keep [0, 1, 2, 6, 7, 8, 10, 15, 24, 32, 35] rfl rfl ?_
    refine Run.ret ?_
    exact Ends.of hE (.inr rfl) rfl rfl (SLe.res0 (AVle.tups (.cons (AVle.nil 1) (.cons (AVle.of_eq rfl) .nil))) rfl)
  have e : extend (digP T mode) Hf f ps m = extP (digP T mode) Hf f ps m true := by unfold extend; rw [if_neg hz]
  rw [e]
  have c3 := fnExtend0 hT hH hm f ps m true hl he (by omega) h1
  generalize extP (digP T mode) Hf f ps m true = L at *
  refine FnC.of Tryd.func40 rfl rfl rfl rfl ?_
  repeat (first | refine Run.seq ?_ | refine Run.skip ?_ | refine Run.block ?_)
  refine Run.region ?_
  refine O.assign rfl rfl ?_
  refine O.assign rfl rfl ?_
  refine O.nil ?_
  try refine Run.keep [0, 1, 2, 6, 7, 8, 10, 15, 24, 32, 35] rfl rfl ?_
  repeat (first | refine Run.seq ?_ | refine Run.skip ?_ | refine Run.block ?_)
  refine Run.region ?_
  refine O.move rfl rfl ?_
  refine O.move rfl rfl ?_
  refine O.callE c1 rfl (by first | rfl | simp [closed, men3, mens2_app, mens2_ints, mens2, men2, men1, mens1_app, mens1_ints, mens1]) (by first | rfl | simp [d2, ds1_ints, ds1_app, ds1, d1, ds0_app, ds0_ints, ds0, d0]) rfl ?_
  refine O.assign rfl rfl ?_
  refine O.nil ?_
  try refine Run.keep [0, 1, 2, 6, 7, 8, 10, 15, 24, 32, 35] rfl rfl ?_
  repeat (first | refine Run.seq ?_ | refine Run.skip ?_ | refine Run.block ?_)
  refine Run.region ?_
  refine O.move rfl rfl ?_
  first | refine O.cmp rfl rfl rfl (by first | exact decide_eq_true (by omega) | exact decide_eq_false (by omega)) rfl ?_ | refine O.cmp rfl rfl rfl rfl rfl ?_
  refine O.nil ?_
  try refine Run.keep [0, 1, 2, 6, 7, 8, 10, 15, 24, 32, 35] rfl rfl ?_
  repeat (first | refine Run.seq ?_ | refine Run.skip ?_)
  first | refine Run.condT rfl rfl ?_ | refine Run.condF rfl rfl ?_ | refine Run.condT rfl (by assumption) ?_ | refine Run.condF rfl (by assumption) ?_
  repeat (first | refine Run.seq ?_ | refine Run.skip ?_ | refine Run.block ?_)
  refine Run.region ?_
  refine O.move rfl rfl ?_
  first | refine O.cmp rfl rfl rfl (by first | exact decide_eq_true (by omega) | exact decide_eq_false (by omega)) rfl ?_ | refine O.cmp rfl rfl rfl rfl rfl ?_
  refine O.move rfl rfl ?_
  first | (refine O.yes rfl rfl (by first | rfl | assumption) ?_; refine O.move rfl rfl ?_) | refine O.no rfl rfl rfl rfl ?_
  first | (refine O.yes rfl rfl (by first | rfl | assumption) ?_; refine O.move rfl rfl ?_) | refine O.no rfl rfl rfl rfl ?_
  first | (refine O.yes rfl rfl (by first | rfl | assumption) ?_; first | refine O.lenN hE T41 rfl rfl rfl (by first | exact newest_pv | exact newest_gl rfl rfl | trivial) lenC rfl ?_ | refine O.lenLst hE T41 rfl rfl rfl (by first | exact newest_pv | exact newest_gl rfl rfl | trivial) rfl ?_) | refine O.no rfl rfl rfl rfl ?_
  first | (refine O.yes rfl rfl (by first | rfl | assumption) ?_; first | refine O.cmp rfl rfl rfl (by first | exact decide_eq_true (by omega) | exact decide_eq_false (by omega)) rfl ?_ | refine O.cmp rfl rfl rfl rfl rfl ?_) | refine O.no rfl rfl rfl rfl ?_
  refine O.pick rfl rfl rfl rfl rfl ?_
  refine O.nil ?_
  try refine Run.keep [0, 1, 2, 6, 7, 8, 10, 15, 24, 32, 35] rfl rfl ?_
  repeat (first | refine Run.seq ?_ | refine Run.skip ?_)
  first | refine Run.condT rfl rfl ?_ | refine Run.condF rfl rfl ?_ | refine Run.condT rfl (by assumption) ?_ | refine Run.condF rfl (by assumption) ?_
  repeat (first | refine Run.seq ?_ | refine Run.skip ?_ | refine Run.block ?_)
  refine Run.region ?_
  refine O.move rfl rfl ?_
  refine O.move rfl rfl ?_
  refine O.callE c2 rfl (by first | rfl | simp [closed, men3, mens2_app, mens2_ints, mens2, men2, men1, mens1_app, mens1_ints, mens1]) (by first | rfl | simp [d2, ds1_ints, ds1_app, ds1, d1, ds0_app, ds0_ints, ds0, d0]) rfl ?_
  refine O.move rfl rfl ?_
  refine O.extract rfl rfl rfl ?_
  refine O.extract rfl rfl rfl ?_
  refine O.assign rfl rfl ?_
  refine O.assign rfl rfl ?_
  refine O.nil ?_
  try refine Run.keep [0, 1, 2, 6, 7, 8, 10, 15, 24, 32, 35] rfl rfl ?_
  repeat (first | refine Run.seq ?_ | refine Run.skip ?_ | refine Run.block ?_)
  refine Run.region ?_
  refine O.move rfl rfl ?_
  first | refine O.cmp rfl rfl rfl (by first | exact decide_eq_true (by omega) | exact decide_eq_false (by omega)) rfl ?_ | refine O.cmp rfl rfl rfl rfl rfl ?_
  refine O.nil ?_
  try refine Run.keep [0, 1, 2, 6, 7, 8, 10, 15, 24, 32, 35] rfl rfl ?_
  repeat (first | refine Run.seq ?_ | refine Run.skip ?_)
  first | refine Run.condT rfl rfl ?_ | refine Run.condF rfl rfl ?_ | refine Run.condT rfl (by assumption) ?_ | refine Run.condF rfl (by assumption) ?_
  repeat (first | refine Run.seq ?_ | refine Run.skip ?_ | refine Run.block ?_)
  refine Run.region ?_
  refine O.move rfl rfl ?_
  first | refine O.cmp rfl rfl rfl (by first | exact decide_eq_true (by omega) | exact decide_eq_false (by omega)) rfl ?_ | refine O.cmp rfl rfl rfl rfl rfl ?_
  refine O.nil ?_
  try refine Run.keep [0, 1, 2, 6, 7, 8, 10, 15, 24, 32, 35] rfl rfl ?_
  repeat (first | refine Run.seq ?_ | refine Run.skip ?_)
  first | refine Run.condT rfl rfl ?_ | refine Run.condF rfl rfl ?_ | refine Run.condT rfl (by assumption) ?_ | refine Run.condF rfl (by assumption) ?_
  repeat (first | refine Run.seq ?_ | refine Run.skip ?_ | refine Run.block ?_)
  refine Run.region ?_
  refine O.move rfl rfl ?_
  refine O.move rfl rfl ?_
  refine O.move rfl rfl ?_
  refine O.call (bs' := []) (r' := .tup [.gl 57 L.length, .pv (.int .i64 0)]) (bs2 := [(57, .lst 27 1 (L.map bys))]) 0 c3 (evsO_les _ _ rfl) rfl rfl rfl rfl rfl rfl rfl ?_
  refine O.extract rfl rfl rfl ?_
  refine O.extract rfl rfl rfl ?_
  refine O.assign rfl rfl ?_
  refine O.assign rfl rfl ?_
  refine O.nil ?_
  try refine Run.keep [0, 1, 2, 6, 7, 8, 10, 15, 24, 32, 35] rfl rfl ?_
  refine Run.ret ?_
  exact Ends.of hE (.inr rfl) rfl rfl (SLe.res0 (AVle.tups (.cons (AVle.lst _ _ _ (lstOf_gl rfl (by simp))) (.cons (AVle.of_eq rfl) .nil))) rfl)
end Go.Proofs.YtcbdhdblchmofaaDoor.Vm
