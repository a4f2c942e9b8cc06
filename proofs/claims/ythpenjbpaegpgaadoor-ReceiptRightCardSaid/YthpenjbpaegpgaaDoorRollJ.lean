/- Rolls: the path to an entry. Conditions: the table of steps has 64 words. -/
import Derived.Test.YthpenjbpaegpgaaDoorRollI
import Derived.Test.YthpenjbpaegpgaaDoorPick
namespace Go.Proofs.YthpenjbpaegpgaaDoor.Vm
open Go Go.RowKit
set_option linter.unusedVariables false
set_option linter.unusedSimpArgs false
attribute [local irreducible] Ops Dr Run digP
variable {g : Nat → Option (List PV)}
section
variable {E : Env} {n : Nat} {tm : List (Nat × AV)} {bx : List (Nat × Box)} {ops : Array Oper} {l : List Oper} {d : Tmp} {ty : TypeId} {pos : String} {after : Array Edge}
theorem D.slice3 {Θ : List Rec → St → Prop} {t e : TypeId} {y x x' : Operand} {i ie : TI} {sz : Nat} {xs ys : List PV} {k k' : IntKind} {m : Int} (hE : E.Ok) (ht : E.T t = some i) (hk : i.desc = .slc e) (he : E.T e = some ie) (hy : evO E tm y = some (.pv (.lst sz xs))) (hsz : sz = ie.size) (hx : evO E tm x = some (.pv (.int k m))) (hx' : evO E tm x' = some (.pv (.int k' m)))
    (h1 : 0 ≤ m) (h2 : m ≤ xs.length) (hys : xs.take m.toNat = ys) (hd : Nat.blt d n = true)
    (h : Dr E.P E.g ops l ⟨n, (d, .pv (.lst sz ys)) :: tm, bx⟩ (fun rs => Θ (⟨rtsOf E tm [y, x, x'], [], [], some d, .pv (.lst sz ys), []⟩ :: rs))) : Dr E.P E.g ops (⟨some d, .slice t y none (some x) (some x'), ty, pos, after, none⟩ :: l) ⟨n, tm, bx⟩ Θ :=
  D.of (rt := rtsOf E tm [y, x, x']) (rb := []) (rts_now _) none_met hd (fun s hs _ hd' => OpOk.slice3 (s := s) (hE.t _ _ ht) hk (hE.t _ _ he) (evO_ok (n := s.n) (bx := s.bx) (rts_ev (by simp) hy hs)) rfl hsz (evO_ok (n := s.n) (bx := s.bx) (rts_ev (by simp) hx hs)) (evO_ok (n := s.n) (bx := s.bx) (rts_ev (by simp) hx' hs)) h1 h2 hys (fun t ht => by obtain rfl := Option.some.inj ht; exact hd')) h
end
theorem fnInclude0 {T : List Int → List Int → List Int} (hT : Feeds g T) {Hf : Int → Int} (hH : Halves g Hf) {mode : Int} (hm : mode = 1 ∨ mode = 2) : ∀ (f : Nat) (ps : List (List Int)) (i : Int), ps.length ≤ f → Entries ps → 0 ≤ i → i < ps.length →
    FnC (En Tryd.prog g) 20 [.pv (.int .i64 mode), .pv (.lst 1 (ps.map bys)), .pv (.int .i64 i)] (.tup [.gl 57 (pathP (digP T mode) Hf f ps i).length, .pv (.int .i64 0)]) [(57, .lst 31 1 ((pathP (digP T mode) Hf f ps i).map bys))] := by
  intro f
  induction f with
  | zero => intro ps i hl he h0 h1; omega
  | succ f ih =>
    intro ps i hl he h0 h1
    have hE := EnOk g
    have hlen : (ps.map bys).length = ps.length := by simp
    by_cases hn1 : ps.length = 1
    ·
      have e2 : pathP (digP T mode) Hf (f + 1) ps i = [] := by simp only [pathP]; rw [if_pos hn1]
      rw [e2]
      refine FnC.of Tryd.func20 rfl rfl rfl rfl ?_
      repeat (first | refine Run.seq ?_ | refine Run.skip ?_ | refine Run.block ?_)
      refine Run.region ?_
      refine O.assign rfl rfl ?_
      refine O.assign rfl rfl ?_
      refine O.nil ?_
      try refine Run.keep [0, 1, 2, 6, 7, 8, 9, 10, 11, 12, 13, 16, 29, 43, 52] rfl rfl ?_
      repeat (first | refine Run.seq ?_ | refine Run.skip ?_ | refine Run.block ?_)
      refine Run.region ?_
      refine O.move rfl rfl ?_
      first | refine O.lenN hE T24 rfl rfl rfl (by first | exact newest_pv | exact newest_gl rfl rfl | trivial) lenC rfl ?_ | refine O.lenLst hE T24 rfl rfl rfl (by first | exact newest_pv | exact newest_gl rfl rfl | trivial) rfl ?_
      first | refine O.cmp rfl rfl rfl (by first | exact decide_eq_true (by omega) | exact decide_eq_false (by omega)) rfl ?_ | refine O.cmp rfl rfl rfl rfl rfl ?_
      refine O.nil ?_
      try refine Run.keep [0, 1, 2, 6, 7, 8, 9, 10, 11, 12, 13, 16, 29, 43, 52] rfl rfl ?_
      repeat (first | refine Run.seq ?_ | refine Run.skip ?_)
      first | refine Run.condT rfl rfl ?_ | refine Run.condF rfl rfl ?_ | refine Run.condT rfl (by assumption) ?_ | refine Run.condF rfl (by assumption) ?_
      repeat (first | refine Run.seq ?_ | refine Run.skip ?_ | refine Run.block ?_)
      refine Run.region ?_
      refine O.assign rfl rfl ?_
      refine O.assign rfl rfl ?_
      refine O.nil ?_
      try refine Run.keep [0, 1, 2, 6, 7, 8, 9, 10, 11, 12, 13, 16, 29, 43, 52] rfl rfl ?_
      refine Run.pre (SLe.nilBox (t := 6) (b := 57) (e := 31) (sz := 1) rfl rfl rfl rfl) ?_
      refine Run.ret ?_
      exact Ends.of hE (.inr rfl) rfl rfl (SLe.eqv (by repeat (first | exact TmIn.nil | refine TmIn.cons rfl ?_)) (by repeat (first | exact BxIn.nil | refine BxIn.cons rfl ?_)) rfl)
    obtain ⟨_, k1, k2, k3, ck⟩ := hH ps.length (by omega) (by have := he.1; omega)
    have hpl := path_len (D := digP T mode) hH (f + 1) ps i hl (by omega) he.1
    have h64 := he.1
    by_cases hik : i < Hf ps.length
    ·
      have e2 : pathP (digP T mode) Hf (f + 1) ps i = pathP (digP T mode) Hf f (ps.take (Hf ps.length).toNat) i ++ [rootP (digP T mode) Hf f (ps.drop (Hf ps.length).toNat)] := by simp only [pathP]; rw [if_neg hn1, if_pos hik]
      rw [e2] at hpl ⊢
      generalize Hf ps.length = k at *
      have l1 : (ps.take k.toNat).length = k.toNat := by rw [List.length_take]; omega
      have l2 : (ps.drop k.toNat).length = ps.length - k.toNat := by rw [List.length_drop]
      have ci := ih (ps.take k.toNat) i (by omega) (he.take _) (by omega) (by omega)
      have cr := fnRollRoot hT hH hm f (ps.drop k.toNat) (by omega) (he.drop _)
      generalize rootP (digP T mode) Hf f (ps.drop k.toNat) = rb at *
      generalize pathP (digP T mode) Hf f (ps.take k.toNat) i = Pp at *
      have hPl : Pp.length + 1 ≤ 64 := by simp only [List.length_append, List.length_cons, List.length_nil] at hpl; omega
      have ha : (ps.map bys).take k.toNat = (ps.take k.toNat).map bys := List.map_take.symm
      have hb : ((ps.map bys).take ((ps.map bys).length : Int).toNat).drop k.toNat = (ps.drop k.toNat).map bys := by rw [Int.toNat_natCast, List.take_length, List.map_drop]
      refine FnC.of Tryd.func20 rfl rfl rfl rfl ?_
      repeat (first | refine Run.seq ?_ | refine Run.skip ?_ | refine Run.block ?_)
      refine Run.region ?_
      refine O.assign rfl rfl ?_
      refine O.assign rfl rfl ?_
      refine O.nil ?_
      try refine Run.keep [0, 1, 2, 6, 7, 8, 9, 10, 11, 12, 13, 16, 29, 43, 52] rfl rfl ?_
      repeat (first | refine Run.seq ?_ | refine Run.skip ?_ | refine Run.block ?_)
      refine Run.region ?_
      refine O.move rfl rfl ?_
      first | refine O.lenN hE T24 rfl rfl rfl (by first | exact newest_pv | exact newest_gl rfl rfl | trivial) lenC rfl ?_ | refine O.lenLst hE T24 rfl rfl rfl (by first | exact newest_pv | exact newest_gl rfl rfl | trivial) rfl ?_
      first | refine O.cmp rfl rfl rfl (by first | exact decide_eq_true (by omega) | exact decide_eq_false (by omega)) rfl ?_ | refine O.cmp rfl rfl rfl rfl rfl ?_
      refine O.nil ?_
      try refine Run.keep [0, 1, 2, 6, 7, 8, 9, 10, 11, 12, 13, 16, 29, 43, 52] rfl rfl ?_
      repeat (first | refine Run.seq ?_ | refine Run.skip ?_)
      first | refine Run.condT rfl rfl ?_ | refine Run.condF rfl rfl ?_ | refine Run.condT rfl (by assumption) ?_ | refine Run.condF rfl (by assumption) ?_
      repeat (first | refine Run.seq ?_ | refine Run.skip ?_ | refine Run.block ?_)
      refine Run.region ?_
      refine O.move rfl rfl ?_
      first | refine O.lenN hE T24 rfl rfl rfl (by first | exact newest_pv | exact newest_gl rfl rfl | trivial) lenC rfl ?_ | refine O.lenLst hE T24 rfl rfl rfl (by first | exact newest_pv | exact newest_gl rfl rfl | trivial) rfl ?_
      refine O.callE ck rfl (by first | rfl | simp [closed, men3, mens2_app, mens2_ints, mens2, men2, men1, mens1_app, mens1_ints, mens1]) (by first | rfl | simp [d2, ds1_ints, ds1_app, ds1, d1, ds0_app, ds0_ints, ds0, d0]) rfl ?_
      refine O.assign rfl rfl ?_
      refine O.nil ?_
      try refine Run.keep [0, 1, 2, 6, 7, 8, 9, 10, 11, 12, 13, 16, 29, 43, 52] rfl rfl ?_
      repeat (first | refine Run.seq ?_ | refine Run.skip ?_ | refine Run.block ?_)
      refine Run.draw mixed rfl ?_
      refine D.move rfl rfl ?_
      refine D.move rfl rfl ?_
      refine D.move rfl rfl ?_
      refine D.slice3 hE T24 rfl T31 rfl rfl rfl rfl (by omega) (by omega) ha rfl ?_
      refine D.move rfl rfl ?_
      refine D.move rfl rfl ?_
      refine D.sliceP hE T24 rfl T31 rfl rfl rfl rfl (by omega) (by omega) (Int.le_refl _) hb rfl ?_
      refine D.assign rfl rfl ?_
      refine D.assign rfl rfl ?_
      refine Dr.nil ?_
      refine ⟨rfl, ?_⟩
      try refine Run.keep [0, 1, 2, 6, 7, 8, 9, 10, 11, 12, 13, 16, 29, 43, 52] rfl rfl ?_
      repeat (first | refine Run.seq ?_ | refine Run.skip ?_ | refine Run.block ?_)
      refine Run.region ?_
      refine O.move rfl rfl ?_
      refine O.move rfl rfl ?_
      first | refine O.cmp rfl rfl rfl (by first | exact decide_eq_true (by omega) | exact decide_eq_false (by omega)) rfl ?_ | refine O.cmp rfl rfl rfl rfl rfl ?_
      refine O.nil ?_
      try refine Run.keep [0, 1, 2, 6, 7, 8, 9, 10, 11, 12, 13, 16, 29, 43, 52] rfl rfl ?_
      repeat (first | refine Run.seq ?_ | refine Run.skip ?_)
      first | refine Run.condT rfl rfl ?_ | refine Run.condF rfl rfl ?_ | refine Run.condT rfl (by assumption) ?_ | refine Run.condF rfl (by assumption) ?_
      repeat (first | refine Run.seq ?_ | refine Run.skip ?_ | refine Run.block ?_)
      refine Run.region ?_
      refine O.move rfl rfl ?_
      refine O.move rfl rfl ?_
      refine O.move rfl rfl ?_
      refine O.call (bs' := []) (r' := .tup [.gl 57 Pp.length, .pv (.int .i64 0)]) (bs2 := [(57, .lst 31 1 (Pp.map bys))]) 0 ci (evsO_les _ _ rfl) rfl rfl rfl rfl rfl rfl rfl ?_
      refine O.move rfl rfl ?_
      refine O.extract rfl rfl rfl ?_
      refine O.extract rfl rfl rfl ?_
      refine O.assign rfl rfl ?_
      refine O.assign rfl rfl ?_
      refine O.nil ?_
      try refine Run.keep [0, 1, 2, 6, 7, 8, 9, 10, 11, 12, 13, 16, 29, 43, 52] rfl rfl ?_
      repeat (first | refine Run.seq ?_ | refine Run.skip ?_ | refine Run.block ?_)
      refine Run.region ?_
      refine O.move rfl rfl ?_
      first | refine O.cmp rfl rfl rfl (by first | exact decide_eq_true (by omega) | exact decide_eq_false (by omega)) rfl ?_ | refine O.cmp rfl rfl rfl rfl rfl ?_
      refine O.nil ?_
      try refine Run.keep [0, 1, 2, 6, 7, 8, 9, 10, 11, 12, 13, 16, 29, 43, 52] rfl rfl ?_
      repeat (first | refine Run.seq ?_ | refine Run.skip ?_)
      first | refine Run.condT rfl rfl ?_ | refine Run.condF rfl rfl ?_ | refine Run.condT rfl (by assumption) ?_ | refine Run.condF rfl (by assumption) ?_
      repeat (first | refine Run.seq ?_ | refine Run.skip ?_ | refine Run.block ?_)
      refine Run.region ?_
      refine O.move rfl rfl ?_
      refine O.move rfl rfl ?_
      refine O.callE cr rfl (by first | rfl | simp [closed, men3, mens2_app, mens2_ints, mens2, men2, men1, mens1_app, mens1_ints, mens1]) (by first | rfl | simp [d2, ds1_ints, ds1_app, ds1, d1, ds0_app, ds0_ints, ds0, d0]) rfl ?_
      refine O.move rfl rfl ?_
      refine O.extract rfl rfl rfl ?_
      refine O.extract rfl rfl rfl ?_
      refine O.assign rfl rfl ?_
      refine O.assign rfl rfl ?_
      refine O.nil ?_
      try refine Run.keep [0, 1, 2, 6, 7, 8, 9, 10, 11, 12, 13, 16, 29, 43, 52] rfl rfl ?_
      repeat (first | refine Run.seq ?_ | refine Run.skip ?_ | refine Run.block ?_)
      refine Run.region ?_
      refine O.move rfl rfl ?_
      first | refine O.cmp rfl rfl rfl (by first | exact decide_eq_true (by omega) | exact decide_eq_false (by omega)) rfl ?_ | refine O.cmp rfl rfl rfl rfl rfl ?_
      refine O.nil ?_
      try refine Run.keep [0, 1, 2, 6, 7, 8, 9, 10, 11, 12, 13, 16, 29, 43, 52] rfl rfl ?_
      repeat (first | refine Run.seq ?_ | refine Run.skip ?_)
      first | refine Run.condT rfl rfl ?_ | refine Run.condF rfl rfl ?_ | refine Run.condT rfl (by assumption) ?_ | refine Run.condF rfl (by assumption) ?_
      repeat (first | refine Run.seq ?_ | refine Run.skip ?_ | refine Run.block ?_)
      refine Run.region ?_
      refine O.move rfl rfl ?_
      refine O.move rfl rfl ?_
      refine O.litV hE T24 rfl T31 rfl rfl rfl rfl rfl rfl rfl ?_
      refine O.appP (r := [rb]) hE T24 rfl T31 rfl rfl rfl rfl rfl newest_pv rfl rfl rfl rfl (by simp; omega) (by simp [maxLen]; omega) rfl ?_
      refine O.assign rfl rfl ?_
      refine O.assign rfl rfl ?_
      refine O.nil ?_
      try refine Run.keep [0, 1, 2, 6, 7, 8, 9, 10, 11, 12, 13, 16, 29, 43, 52] rfl rfl ?_
      refine Run.ret ?_
      exact Ends.of hE (.inr rfl) rfl rfl (SLe.eqv (by repeat (first | exact TmIn.nil | refine TmIn.cons rfl ?_)) (by repeat (first | exact BxIn.nil | refine BxIn.cons rfl ?_)) rfl)
    ·
      have e2 : pathP (digP T mode) Hf (f + 1) ps i = pathP (digP T mode) Hf f (ps.drop (Hf ps.length).toNat) (i - Hf ps.length) ++ [rootP (digP T mode) Hf f (ps.take (Hf ps.length).toNat)] := by simp only [pathP]; rw [if_neg hn1, if_neg hik]
      rw [e2] at hpl ⊢
      generalize Hf ps.length = k at *
      have l1 : (ps.take k.toNat).length = k.toNat := by rw [List.length_take]; omega
      have l2 : (ps.drop k.toNat).length = ps.length - k.toNat := by rw [List.length_drop]
      have ci := ih (ps.drop k.toNat) (i - k) (by omega) (he.drop _) (by omega) (by omega)
      have cr := fnRollRoot hT hH hm f (ps.take k.toNat) (by omega) (he.take _)
      generalize rootP (digP T mode) Hf f (ps.take k.toNat) = rb at *
      generalize pathP (digP T mode) Hf f (ps.drop k.toNat) (i - k) = Pp at *
      have hPl : Pp.length + 1 ≤ 64 := by simp only [List.length_append, List.length_cons, List.length_nil] at hpl; omega
      have ha : (ps.map bys).take k.toNat = (ps.take k.toNat).map bys := List.map_take.symm
      have hb : ((ps.map bys).take ((ps.map bys).length : Int).toNat).drop k.toNat = (ps.drop k.toNat).map bys := by rw [Int.toNat_natCast, List.take_length, List.map_drop]
      refine FnC.of Tryd.func20 rfl rfl rfl rfl ?_
      repeat (first | refine Run.seq ?_ | refine Run.skip ?_ | refine Run.block ?_)
      refine Run.region ?_
      refine O.assign rfl rfl ?_
      refine O.assign rfl rfl ?_
      refine O.nil ?_
      try refine Run.keep [0, 1, 2, 6, 7, 8, 9, 10, 11, 12, 13, 16, 29, 43, 52] rfl rfl ?_
      repeat (first | refine Run.seq ?_ | refine Run.skip ?_ | refine Run.block ?_)
      refine Run.region ?_
      refine O.move rfl rfl ?_
      first | refine O.lenN hE T24 rfl rfl rfl (by first | exact newest_pv | exact newest_gl rfl rfl | trivial) lenC rfl ?_ | refine O.lenLst hE T24 rfl rfl rfl (by first | exact newest_pv | exact newest_gl rfl rfl | trivial) rfl ?_
      first | refine O.cmp rfl rfl rfl (by first | exact decide_eq_true (by omega) | exact decide_eq_false (by omega)) rfl ?_ | refine O.cmp rfl rfl rfl rfl rfl ?_
      refine O.nil ?_
      try refine Run.keep [0, 1, 2, 6, 7, 8, 9, 10, 11, 12, 13, 16, 29, 43, 52] rfl rfl ?_
      repeat (first | refine Run.seq ?_ | refine Run.skip ?_)
      first | refine Run.condT rfl rfl ?_ | refine Run.condF rfl rfl ?_ | refine Run.condT rfl (by assumption) ?_ | refine Run.condF rfl (by assumption) ?_
      repeat (first | refine Run.seq ?_ | refine Run.skip ?_ | refine Run.block ?_)
      refine Run.region ?_
      refine O.move rfl rfl ?_
      first | refine O.lenN hE T24 rfl rfl rfl (by first | exact newest_pv | exact newest_gl rfl rfl | trivial) lenC rfl ?_ | refine O.lenLst hE T24 rfl rfl rfl (by first | exact newest_pv | exact newest_gl rfl rfl | trivial) rfl ?_
      refine O.callE ck rfl (by first | rfl | simp [closed, men3, mens2_app, mens2_ints, mens2, men2, men1, mens1_app, mens1_ints, mens1]) (by first | rfl | simp [d2, ds1_ints, ds1_app, ds1, d1, ds0_app, ds0_ints, ds0, d0]) rfl ?_
      refine O.assign rfl rfl ?_
      refine O.nil ?_
      try refine Run.keep [0, 1, 2, 6, 7, 8, 9, 10, 11, 12, 13, 16, 29, 43, 52] rfl rfl ?_
      repeat (first | refine Run.seq ?_ | refine Run.skip ?_ | refine Run.block ?_)
      refine Run.draw mixed rfl ?_
      refine D.move rfl rfl ?_
      refine D.move rfl rfl ?_
      refine D.move rfl rfl ?_
      refine D.slice3 hE T24 rfl T31 rfl rfl rfl rfl (by omega) (by omega) ha rfl ?_
      refine D.move rfl rfl ?_
      refine D.move rfl rfl ?_
      refine D.sliceP hE T24 rfl T31 rfl rfl rfl rfl (by omega) (by omega) (Int.le_refl _) hb rfl ?_
      refine D.assign rfl rfl ?_
      refine D.assign rfl rfl ?_
      refine Dr.nil ?_
      refine ⟨rfl, ?_⟩
      try refine Run.keep [0, 1, 2, 6, 7, 8, 9, 10, 11, 12, 13, 16, 29, 43, 52] rfl rfl ?_
      repeat (first | refine Run.seq ?_ | refine Run.skip ?_ | refine Run.block ?_)
      refine Run.region ?_
      refine O.move rfl rfl ?_
      refine O.move rfl rfl ?_
      first | refine O.cmp rfl rfl rfl (by first | exact decide_eq_true (by omega) | exact decide_eq_false (by omega)) rfl ?_ | refine O.cmp rfl rfl rfl rfl rfl ?_
      refine O.nil ?_
      try refine Run.keep [0, 1, 2, 6, 7, 8, 9, 10, 11, 12, 13, 16, 29, 43, 52] rfl rfl ?_
      repeat (first | refine Run.seq ?_ | refine Run.skip ?_)
      first | refine Run.condT rfl rfl ?_ | refine Run.condF rfl rfl ?_ | refine Run.condT rfl (by assumption) ?_ | refine Run.condF rfl (by assumption) ?_
      repeat (first | refine Run.seq ?_ | refine Run.skip ?_ | refine Run.block ?_)
      refine Run.region ?_
      refine O.move rfl rfl ?_
      refine O.move rfl rfl ?_
      refine O.move rfl rfl ?_
      refine O.move rfl rfl ?_
      first | refine O.ar rfl rfl rfl (by exact wrap_i64 (by omega) (by omega)) rfl ?_ | refine O.ar rfl rfl rfl rfl rfl ?_
      refine O.assign rfl rfl ?_
      refine O.assign rfl rfl ?_
      refine O.assign rfl rfl ?_
      refine O.nil ?_
      try refine Run.keep [0, 1, 2, 6, 7, 8, 9, 10, 11, 12, 13, 16, 29, 43, 52] rfl rfl ?_
      repeat (first | refine Run.seq ?_ | refine Run.skip ?_ | refine Run.block ?_)
      refine Run.region ?_
      refine O.move rfl rfl ?_
      refine O.move rfl rfl ?_
      refine O.move rfl rfl ?_
      refine O.call (bs' := []) (r' := .tup [.gl 57 Pp.length, .pv (.int .i64 0)]) (bs2 := [(57, .lst 31 1 (Pp.map bys))]) 0 ci (evsO_les _ _ rfl) rfl rfl rfl rfl rfl rfl rfl ?_
      refine O.move rfl rfl ?_
      refine O.extract rfl rfl rfl ?_
      refine O.extract rfl rfl rfl ?_
      refine O.assign rfl rfl ?_
      refine O.assign rfl rfl ?_
      refine O.nil ?_
      try refine Run.keep [0, 1, 2, 6, 7, 8, 9, 10, 11, 12, 13, 16, 29, 43, 52] rfl rfl ?_
      repeat (first | refine Run.seq ?_ | refine Run.skip ?_ | refine Run.block ?_)
      refine Run.region ?_
      refine O.move rfl rfl ?_
      first | refine O.cmp rfl rfl rfl (by first | exact decide_eq_true (by omega) | exact decide_eq_false (by omega)) rfl ?_ | refine O.cmp rfl rfl rfl rfl rfl ?_
      refine O.nil ?_
      try refine Run.keep [0, 1, 2, 6, 7, 8, 9, 10, 11, 12, 13, 16, 29, 43, 52] rfl rfl ?_
      repeat (first | refine Run.seq ?_ | refine Run.skip ?_)
      first | refine Run.condT rfl rfl ?_ | refine Run.condF rfl rfl ?_ | refine Run.condT rfl (by assumption) ?_ | refine Run.condF rfl (by assumption) ?_
      repeat (first | refine Run.seq ?_ | refine Run.skip ?_ | refine Run.block ?_)
      refine Run.region ?_
      refine O.move rfl rfl ?_
      refine O.move rfl rfl ?_
      refine O.callE cr rfl (by first | rfl | simp [closed, men3, mens2_app, mens2_ints, mens2, men2, men1, mens1_app, mens1_ints, mens1]) (by first | rfl | simp [d2, ds1_ints, ds1_app, ds1, d1, ds0_app, ds0_ints, ds0, d0]) rfl ?_
      refine O.move rfl rfl ?_
      refine O.extract rfl rfl rfl ?_
      refine O.extract rfl rfl rfl ?_
      refine O.assign rfl rfl ?_
      refine O.assign rfl rfl ?_
      refine O.nil ?_
      try refine Run.keep [0, 1, 2, 6, 7, 8, 9, 10, 11, 12, 13, 16, 29, 43, 52] rfl rfl ?_
      repeat (first | refine Run.seq ?_ | refine Run.skip ?_ | refine Run.block ?_)
      refine Run.region ?_
      refine O.move rfl rfl ?_
      first | refine O.cmp rfl rfl rfl (by first | exact decide_eq_true (by omega) | exact decide_eq_false (by omega)) rfl ?_ | refine O.cmp rfl rfl rfl rfl rfl ?_
      refine O.nil ?_
      try refine Run.keep [0, 1, 2, 6, 7, 8, 9, 10, 11, 12, 13, 16, 29, 43, 52] rfl rfl ?_
      repeat (first | refine Run.seq ?_ | refine Run.skip ?_)
      first | refine Run.condT rfl rfl ?_ | refine Run.condF rfl rfl ?_ | refine Run.condT rfl (by assumption) ?_ | refine Run.condF rfl (by assumption) ?_
      repeat (first | refine Run.seq ?_ | refine Run.skip ?_ | refine Run.block ?_)
      refine Run.region ?_
      refine O.move rfl rfl ?_
      refine O.move rfl rfl ?_
      refine O.litV hE T24 rfl T31 rfl rfl rfl rfl rfl rfl rfl ?_
      refine O.appP (r := [rb]) hE T24 rfl T31 rfl rfl rfl rfl rfl newest_pv rfl rfl rfl rfl (by simp; omega) (by simp [maxLen]; omega) rfl ?_
      refine O.assign rfl rfl ?_
      refine O.assign rfl rfl ?_
      refine O.nil ?_
      try refine Run.keep [0, 1, 2, 6, 7, 8, 9, 10, 11, 12, 13, 16, 29, 43, 52] rfl rfl ?_
      refine Run.ret ?_
      exact Ends.of hE (.inr rfl) rfl rfl (SLe.eqv (by repeat (first | exact TmIn.nil | refine TmIn.cons rfl ?_)) (by repeat (first | exact BxIn.nil | refine BxIn.cons rfl ?_)) rfl)
theorem fnInclude {T : List Int → List Int → List Int} (hT : Feeds g T) {Hf : Int → Int} (hH : Halves g Hf) {mode : Int} (hm : mode = 1 ∨ mode = 2) {f : Nat} {ps : List (List Int)} {i : Int} (hl : ps.length ≤ f) (he : Entries ps) (h0 : 0 ≤ i) (h1 : i < ps.length) :
    FnC (En Tryd.prog g) 9 [.pv (.int .i64 mode), .pv (.lst 1 (ps.map bys)), .pv (.int .i64 i)] (.tup [.pv (.lst 1 ((pathP (digP T mode) Hf f ps i).map bys)), .pv (.int .i64 0)]) [] := by
  have hE := EnOk g
  have hlen : (ps.map bys).length = ps.length := by simp
  have c1 := fnFault (g := g) hm he.1
  have c2 := fnRollRoot hT hH hm f ps hl he
  have c3 := fnInclude0 hT hH hm f ps i hl he h0 h1
  generalize rootP (digP T mode) Hf f ps = R at *
  generalize pathP (digP T mode) Hf f ps i = L at *
  refine FnC.of Tryd.func9 rfl rfl rfl rfl ?_
  repeat (first | refine Run.seq ?_ | refine Run.skip ?_ | refine Run.block ?_)
  refine Run.region ?_
  refine O.assign rfl rfl ?_
  refine O.assign rfl rfl ?_
  refine O.nil ?_
  try refine Run.keep [0, 1, 2, 6, 7, 8, 10, 15, 24, 32] rfl rfl ?_
  repeat (first | refine Run.seq ?_ | refine Run.skip ?_ | refine Run.block ?_)
  refine Run.region ?_
  refine O.move rfl rfl ?_
  refine O.move rfl rfl ?_
  refine O.callE c1 rfl (by first | rfl | simp [closed, men3, mens2_app, mens2_ints, mens2, men2, men1, mens1_app, mens1_ints, mens1]) (by first | rfl | simp [d2, ds1_ints, ds1_app, ds1, d1, ds0_app, ds0_ints, ds0, d0]) rfl ?_
  refine O.assign rfl rfl ?_
  refine O.nil ?_
  try refine Run.keep [0, 1, 2, 6, 7, 8, 10, 15, 24, 32] rfl rfl ?_
  repeat (first | refine Run.seq ?_ | refine Run.skip ?_ | refine Run.block ?_)
  refine Run.region ?_
  refine O.move rfl rfl ?_
  first | refine O.cmp rfl rfl rfl (by first | exact decide_eq_true (by omega) | exact decide_eq_false (by omega)) rfl ?_ | refine O.cmp rfl rfl rfl rfl rfl ?_
  refine O.nil ?_
  try refine Run.keep [0, 1, 2, 6, 7, 8, 10, 15, 24, 32] rfl rfl ?_
  repeat (first | refine Run.seq ?_ | refine Run.skip ?_)
  first | refine Run.condT rfl rfl ?_ | refine Run.condF rfl rfl ?_ | refine Run.condT rfl (by assumption) ?_ | refine Run.condF rfl (by assumption) ?_
  repeat (first | refine Run.seq ?_ | refine Run.skip ?_ | refine Run.block ?_)
  refine Run.region ?_
  refine O.move rfl rfl ?_
  first | refine O.cmp rfl rfl rfl (by first | exact decide_eq_true (by omega) | exact decide_eq_false (by omega)) rfl ?_ | refine O.cmp rfl rfl rfl rfl rfl ?_
  refine O.move rfl rfl ?_
  first | (refine O.yes rfl rfl (by first | rfl | assumption) ?_; refine O.move rfl rfl ?_) | refine O.no rfl rfl rfl rfl ?_
  first | (refine O.yes rfl rfl (by first | rfl | assumption) ?_; refine O.move rfl rfl ?_) | refine O.no rfl rfl rfl rfl ?_
  first | (refine O.yes rfl rfl (by first | rfl | assumption) ?_; first | refine O.lenN hE T24 rfl rfl rfl (by first | exact newest_pv | exact newest_gl rfl rfl | trivial) lenC rfl ?_ | refine O.lenLst hE T24 rfl rfl rfl (by first | exact newest_pv | exact newest_gl rfl rfl | trivial) rfl ?_) | refine O.no rfl rfl rfl rfl ?_
  first | (refine O.yes rfl rfl (by first | rfl | assumption) ?_; first | refine O.cmp rfl rfl rfl (by first | exact decide_eq_true (by omega) | exact decide_eq_false (by omega)) rfl ?_ | refine O.cmp rfl rfl rfl rfl rfl ?_) | refine O.no rfl rfl rfl rfl ?_
  refine O.pick rfl rfl rfl rfl rfl ?_
  refine O.nil ?_
  try refine Run.keep [0, 1, 2, 6, 7, 8, 10, 15, 24, 32] rfl rfl ?_
  repeat (first | refine Run.seq ?_ | refine Run.skip ?_)
  first | refine Run.condT rfl rfl ?_ | refine Run.condF rfl rfl ?_ | refine Run.condT rfl (by assumption) ?_ | refine Run.condF rfl (by assumption) ?_
  repeat (first | refine Run.seq ?_ | refine Run.skip ?_ | refine Run.block ?_)
  refine Run.region ?_
  refine O.move rfl rfl ?_
  refine O.move rfl rfl ?_
  refine O.callE c2 rfl (by first | rfl | simp [closed, men3, mens2_app, mens2_ints, mens2, men2, men1, mens1_app, mens1_ints, mens1]) (by first | rfl | simp [d2, ds1_ints, ds1_app, ds1, d1, ds0_app, ds0_ints, ds0, d0]) rfl ?_
  refine O.move rfl rfl ?_
  refine O.extract rfl rfl rfl ?_
  refine O.extract rfl rfl rfl ?_
  refine O.assign rfl rfl ?_
  refine O.assign rfl rfl ?_
  refine O.nil ?_
  try refine Run.keep [0, 1, 2, 6, 7, 8, 10, 15, 24, 32] rfl rfl ?_
  repeat (first | refine Run.seq ?_ | refine Run.skip ?_ | refine Run.block ?_)
  refine Run.region ?_
  refine O.move rfl rfl ?_
  first | refine O.cmp rfl rfl rfl (by first | exact decide_eq_true (by omega) | exact decide_eq_false (by omega)) rfl ?_ | refine O.cmp rfl rfl rfl rfl rfl ?_
  refine O.nil ?_
  try refine Run.keep [0, 1, 2, 6, 7, 8, 10, 15, 24, 32] rfl rfl ?_
  repeat (first | refine Run.seq ?_ | refine Run.skip ?_)
  first | refine Run.condT rfl rfl ?_ | refine Run.condF rfl rfl ?_ | refine Run.condT rfl (by assumption) ?_ | refine Run.condF rfl (by assumption) ?_
  repeat (first | refine Run.seq ?_ | refine Run.skip ?_ | refine Run.block ?_)
  refine Run.region ?_
  refine O.move rfl rfl ?_
  refine O.move rfl rfl ?_
  refine O.move rfl rfl ?_
  refine O.call (bs' := []) (r' := .tup [.gl 57 L.length, .pv (.int .i64 0)]) (bs2 := [(57, .lst 31 1 (L.map bys))]) 0 c3 (evsO_les _ _ rfl) rfl rfl rfl rfl rfl rfl rfl ?_
  refine O.extract rfl rfl rfl ?_
  refine O.extract rfl rfl rfl ?_
  refine O.assign rfl rfl ?_
  refine O.assign rfl rfl ?_
  refine O.nil ?_
  try refine Run.keep [0, 1, 2, 6, 7, 8, 10, 15, 24, 32] rfl rfl ?_
  refine Run.ret ?_
  exact Ends.of hE (.inr rfl) rfl rfl (SLe.res0 (AVle.tups (.cons (AVle.lst _ _ _ (lstOf_gl rfl (by simp))) (.cons (AVle.of_eq rfl) .nil))) rfl)
end Go.Proofs.YthpenjbpaegpgaaDoor.Vm
