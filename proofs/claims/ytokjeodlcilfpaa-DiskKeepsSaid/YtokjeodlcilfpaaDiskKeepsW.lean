/- DiskKeeps: its walk. Conditions: none. -/
import Derived.Test.YtokjeodlcilfpaaDiskE
namespace Go.Proofs.Ytokjeodlcilfpaa.Vm
open Go Go.RowKit
set_option linter.unusedVariables false
set_option linter.unusedSimpArgs false
attribute [local irreducible] Ops Dr Run
variable {g : Nat → Option (List PV)}
/-- What a sector has, after so many writes of which some last. -/
def rdP (P : Nat → Bool) (Ls : List (List Int)) (i : Nat) (Ws : List Pt) : Nat → List Int
  | 0 => Ls.getD i []
  | j + 1 => match Ws[j]? with
    | some w => if P j = true then (if w.pl = i then w.s else rdP P Ls i Ws j) else rdP P Ls i Ws j
    | none => rdP P Ls i Ws j
theorem rdP_all (Ls : List (List Int)) (i : Nat) (Ws : List Pt) : ∀ j, rdP (fun _ => true) Ls i Ws j = rdS Ls i Ws j
  | 0 => rfl
  | j + 1 => by
    rw [rdP, rdS]
    cases hw : Ws[j]? with
    | some w => dsimp only; rw [if_pos rfl, rdP_all Ls i Ws j]
    | none => exact rdP_all Ls i Ws j
theorem fl_get {Ls : List (List Int)} {Ws : List Pt} (h : DOk Ls Ws) (P : Nat → Bool) {i : Nat} (hi : i < Ls.length) : ∀ j, (fl P Ls Ws j).getD i [] = rdP P Ls i Ws j
  | 0 => rfl
  | j + 1 => by
    have ih := fl_get h P hi j
    rw [fl, rdP]
    cases hw : Ws[j]? with
    | none => exact ih
    | some w =>
      dsimp only
      obtain ⟨w1, w2, _⟩ := h.w w (List.mem_of_getElem? hw)
      by_cases hP : P j = true
      · rw [if_pos hP, if_pos hP]
        have hl := fl_len P (Ls := Ls) (Ws := Ws) j
        rw [List.getD_eq_getElem?_getD, List.getElem?_set]
        by_cases hp : w.pl.toNat = i
        · rw [if_pos hp, if_pos (by omega), if_pos (by omega)]; rfl
        · rw [if_neg hp, if_neg (by omega), ← List.getD_eq_getElem?_getD]; exact ih
      · rw [if_neg hP, if_neg hP]; exact ih
/-- It is what was there, or what was written there. -/
def thr (X L0 : List Int) (i : Nat) (Ws : List Pt) : Nat → Bool
  | 0 => X == L0
  | j + 1 => match Ws[j]? with
    | some w => thr X L0 i Ws j || (decide (w.pl = i) && (w.s == X))
    | none => thr X L0 i Ws j
theorem thr_yes (P : Nat → Bool) (Ls : List (List Int)) (i : Nat) (Ws : List Pt) : ∀ (j : Nat) (X : List Int), rdP P Ls i Ws j = X → thr X (Ls.getD i []) i Ws j = true
  | 0, X, h => by
    rw [rdP] at h
    rw [thr, h]
    exact beq_self_eq_true _
  | j + 1, X, h => by
    have ih := thr_yes P Ls i Ws j X
    rw [rdP] at h
    rw [thr]
    cases hw : Ws[j]? with
    | none =>
      rw [hw] at h
      exact ih h
    | some w =>
      rw [hw] at h
      dsimp only at h ⊢
      by_cases hP : P j = true
      · rw [if_pos hP] at h
        by_cases hpl : w.pl = (i : Int)
        · rw [if_pos hpl] at h
          rw [decide_eq_true hpl, h, beq_self_eq_true]
          simp
        · rw [if_neg hpl] at h
          rw [ih h]; rfl
      · rw [if_neg hP] at h
        rw [ih h]; rfl
theorem fnDiskKeeps {rs : List Rw} (keep b : Int) (hl : (rs.length : Int) ≤ 9223372036854775807) : FnC (En Try.prog g) 4 [.pv (.lst 4 (rs.map rawE)), .pv (.int .i64 keep), .pv (.int .i64 b)] (.pv (.bool true)) [] := by
  have hE := EnOk g
  obtain ⟨Ls, Ws, hd, h6, hwl, c1⟩ := fnWritten (g := g) hl
  have c2 := fnDCrash (g := g) hd keep
  have c3 := fnDSync (g := g) hd
  have c4 := fnPick (g := g) (a := b) (m := 6) (by omega) (by omega)
  obtain ⟨i, hi, hi6⟩ : ∃ i : Nat, b % 6 = (i : Int) ∧ i < Ls.length := ⟨(b % 6).toNat, by omega, by omega⟩
  rw [hi] at c4
  clear hi
  have hc := hd.synced (kB keep) Ws.length
  have hs := hd.synced (fun _ => true) Ws.length
  have hic : i < (fl (kB keep) Ls Ws Ws.length).length := by rw [fl_len]; exact hi6
  have his : i < (fl (fun _ => true) Ls Ws Ws.length).length := by rw [fl_len]; exact hi6
  have c5 := fnDRead (g := g) hc hic
  have c6 := fnDRead (g := g) hd hi6
  have c7 := fnDRead (g := g) hs his
  rw [show rdS (fl (kB keep) Ls Ws Ws.length) i [] ([] : List Pt).length = (fl (kB keep) Ls Ws Ws.length).getD i [] from rfl, fl_get hd _ hi6] at c5
  rw [show rdS (fl (fun _ => true) Ls Ws Ws.length) i [] ([] : List Pt).length = (fl (fun _ => true) Ls Ws Ws.length).getD i [] from rfl, fl_get hd _ hi6, rdP_all] at c7
  have hXl : (rdP (kB keep) Ls i Ws Ws.length).length = 32 := by rw [← fl_get hd _ hi6]; exact rdS_len hc hic 0
  have hZl := rdS_len hd hi6 Ws.length
  have hyes := thr_yes (kB keep) Ls i Ws Ws.length _ rfl
  have hL0 : (Ls.getD i []).length = 32 := rdS_len hd hi6 0
  have hat0 : (Ls.map secE)[(i : Int).toNat]? = some (secE (Ls.getD i [])) := by
    rw [Int.toNat_natCast, List.getElem?_map, List.getD_eq_getElem?_getD, List.getElem?_eq_getElem hi6]; rfl
  generalize rdP (kB keep) Ls i Ws Ws.length = X at *
  generalize rdS Ls i Ws Ws.length = Z at *
  generalize hL0' : Ls.getD i [] = L0 at *
  generalize fl (kB keep) Ls Ws Ws.length = FC at *
  generalize fl (fun _ => true) Ls Ws Ws.length = FS at *
  have hw := hd.w
  have hZZ : (Z == Z) = true := beq_self_eq_true _
  obtain ⟨p0, hp0⟩ : ∃ p0, (X == L0) = p0 := ⟨_, rfl⟩
  have ht0 : thr X L0 i Ws 0 = p0 := by rw [thr]; exact hp0
  clear hd hc hs hL0'
  refine FnC.of Try.func4 rfl rfl rfl rfl ?_
  repeat (first | refine Run.seq ?_ | refine Run.skip ?_ | refine Run.block ?_)
  refine Run.region ?_
  refine O.assign rfl rfl ?_
  refine O.nil ?_
  try refine Run.keep [0, 1, 2, 6, 7, 8, 9, 10, 11, 12, 13, 14, 15, 16, 17, 18, 19, 20, 22, 98, 107, 108, 109, 110] rfl rfl ?_
  repeat (first | refine Run.seq ?_ | refine Run.skip ?_ | refine Run.block ?_)
  refine Run.region ?_
  refine O.move rfl rfl ?_
  refine O.callE c1 rfl (by first | rfl | simp [closed, men3, mens2_app, mens2_ints, mens2, men2, men1, mens1_app, mens1_ints, mens1]) (by first | rfl | simp [d2, ds1_ints, ds1_app, ds1, d1, ds0_app, ds0_ints, ds0, d0]) rfl ?_
  refine O.move rfl rfl ?_
  refine O.extract rfl rfl rfl ?_
  refine O.extract rfl rfl rfl ?_
  refine O.alloc hE 7 T26 rfl rfl rfl ?_
  refine O.store hE T26 rfl rfl rfl rfl rfl rfl ?_
  refine O.assign rfl rfl ?_
  refine O.nil ?_
  try refine Run.keep [0, 1, 2, 6, 7, 8, 9, 10, 11, 12, 13, 14, 15, 16, 17, 18, 19, 20, 22, 98, 107, 108, 109, 110] rfl rfl ?_
  repeat (first | refine Run.seq ?_ | refine Run.skip ?_ | refine Run.block ?_)
  refine Run.region ?_
  refine O.load hE T26 rfl rfl rfl rfl ?_
  refine O.move rfl rfl ?_
  refine O.callE c2 rfl (by first | rfl | simp [closed, men3, mens2_app, mens2_ints, mens2, men2, men1, mens1_app, mens1_ints, mens1]) (by first | rfl | simp [d2, ds1_ints, ds1_app, ds1, d1, ds0_app, ds0_ints, ds0, d0]) rfl ?_
  refine O.move rfl rfl ?_
  refine O.extract rfl rfl rfl ?_
  refine O.extract rfl rfl rfl ?_
  refine O.alloc hE 9 T26 rfl rfl rfl ?_
  refine O.store hE T26 rfl rfl rfl rfl rfl rfl ?_
  refine O.assign rfl rfl ?_
  refine O.nil ?_
  try refine Run.keep [0, 1, 2, 6, 7, 8, 9, 10, 11, 12, 13, 14, 15, 16, 17, 18, 19, 20, 22, 98, 107, 108, 109, 110] rfl rfl ?_
  repeat (first | refine Run.seq ?_ | refine Run.skip ?_ | refine Run.block ?_)
  refine Run.region ?_
  refine O.load hE T26 rfl rfl rfl rfl ?_
  refine O.callE c3 rfl (by first | rfl | simp [closed, men3, mens2_app, mens2_ints, mens2, men2, men1, mens1_app, mens1_ints, mens1]) (by first | rfl | simp [d2, ds1_ints, ds1_app, ds1, d1, ds0_app, ds0_ints, ds0, d0]) rfl ?_
  refine O.move rfl rfl ?_
  refine O.extract rfl rfl rfl ?_
  refine O.extract rfl rfl rfl ?_
  refine O.alloc hE 11 T26 rfl rfl rfl ?_
  refine O.store hE T26 rfl rfl rfl rfl rfl rfl ?_
  refine O.assign rfl rfl ?_
  refine O.nil ?_
  try refine Run.keep [0, 1, 2, 6, 7, 8, 9, 10, 11, 12, 13, 14, 15, 16, 17, 18, 19, 20, 22, 98, 107, 108, 109, 110] rfl rfl ?_
  repeat (first | refine Run.seq ?_ | refine Run.skip ?_ | refine Run.block ?_)
  refine Run.region ?_
  refine O.move rfl rfl ?_
  refine O.callE c4 rfl (by first | rfl | simp [closed, men3, mens2_app, mens2_ints, mens2, men2, men1, mens1_app, mens1_ints, mens1]) (by first | rfl | simp [d2, ds1_ints, ds1_app, ds1, d1, ds0_app, ds0_ints, ds0, d0]) rfl ?_
  refine O.assign rfl rfl ?_
  refine O.nil ?_
  try refine Run.keep [0, 1, 2, 6, 7, 8, 9, 10, 11, 12, 13, 14, 15, 16, 17, 18, 19, 20, 22, 98, 107, 108, 109, 110] rfl rfl ?_
  repeat (first | refine Run.seq ?_ | refine Run.skip ?_ | refine Run.block ?_)
  refine Run.region ?_
  refine O.load hE T26 rfl rfl rfl rfl ?_
  refine O.move rfl rfl ?_
  refine O.callE c5 rfl rfl (by simp only [d2, ds1, d1, ds0_pvs, Bool.and_self]) rfl ?_
  refine O.move rfl rfl ?_
  refine O.extract rfl rfl rfl ?_
  refine O.extract rfl rfl rfl ?_
  first | refine O.allocS hE 14 T30 ints_zero rfl rfl ?_ | refine O.alloc hE 14 T30 rfl rfl rfl ?_
  refine O.storeS hE T30 rfl rfl (cells_cel X) rfl (by simp [hXl]) (by simp [ints_len, hXl]) (setAt_all _ _ (by simp [ints_len, hXl])) ?_
  refine O.assign rfl rfl ?_
  refine O.nil ?_
  try refine Run.keep [0, 1, 2, 6, 7, 8, 9, 10, 11, 12, 13, 14, 15, 16, 17, 18, 19, 20, 22, 98, 107, 108, 109, 110] rfl rfl ?_
  repeat (first | refine Run.seq ?_ | refine Run.skip ?_ | refine Run.block ?_)
  refine Run.region ?_
  refine O.load hE T26 rfl rfl rfl rfl ?_
  refine O.move rfl rfl ?_
  refine O.callE c6 rfl rfl (by simp only [d2, ds1, d1, ds0_pvs, Bool.and_self]) rfl ?_
  refine O.move rfl rfl ?_
  refine O.extract rfl rfl rfl ?_
  refine O.extract rfl rfl rfl ?_
  first | refine O.allocS hE 16 T30 ints_zero rfl rfl ?_ | refine O.alloc hE 16 T30 rfl rfl rfl ?_
  refine O.storeS hE T30 rfl rfl (cells_cel Z) rfl (by simp [hZl]) (by simp [ints_len, hZl]) (setAt_all _ _ (by simp [ints_len, hZl])) ?_
  refine O.assign rfl rfl ?_
  refine O.nil ?_
  try refine Run.keep [0, 1, 2, 6, 7, 8, 9, 10, 11, 12, 13, 14, 15, 16, 17, 18, 19, 20, 22, 98, 107, 108, 109, 110] rfl rfl ?_
  repeat (first | refine Run.seq ?_ | refine Run.skip ?_ | refine Run.block ?_)
  refine Run.region ?_
  refine O.load hE T26 rfl rfl rfl rfl ?_
  refine O.move rfl rfl ?_
  refine O.callE c7 rfl rfl (by simp only [d2, ds1, d1, ds0_pvs, Bool.and_self]) rfl ?_
  refine O.move rfl rfl ?_
  refine O.extract rfl rfl rfl ?_
  refine O.extract rfl rfl rfl ?_
  first | refine O.allocS hE 18 T30 ints_zero rfl rfl ?_ | refine O.alloc hE 18 T30 rfl rfl rfl ?_
  refine O.storeS hE T30 rfl rfl (cells_cel Z) rfl (by simp [hZl]) (by simp [ints_len, hZl]) (setAt_all _ _ (by simp [ints_len, hZl])) ?_
  refine O.assign rfl rfl ?_
  refine O.nil ?_
  try refine Run.keep [0, 1, 2, 6, 7, 8, 9, 10, 11, 12, 13, 14, 15, 16, 17, 18, 19, 20, 22, 98, 107, 108, 109, 110] rfl rfl ?_
  repeat (first | refine Run.seq ?_ | refine Run.skip ?_ | refine Run.block ?_)
  refine Run.region ?_
  refine O.move rfl rfl ?_
  refine O.un rfl rfl rfl rfl rfl ?_
  refine O.move rfl rfl ?_
  first | (refine O.yes rfl rfl (by first | rfl | assumption) ?_; refine O.move rfl rfl ?_) | refine O.no rfl rfl rfl rfl ?_
  first | (refine O.yes rfl rfl (by first | rfl | assumption) ?_; first | refine O.cmp rfl rfl rfl (by first | exact decide_eq_true (by omega) | exact decide_eq_false (by omega)) rfl ?_ | refine O.cmp rfl rfl rfl rfl rfl ?_) | refine O.no rfl rfl rfl rfl ?_
  refine O.pick rfl rfl rfl rfl rfl ?_
  refine O.move rfl rfl ?_
  first | (refine O.yes rfl rfl (by first | rfl | assumption) ?_; refine O.move rfl rfl ?_) | refine O.no rfl rfl rfl rfl ?_
  first | (refine O.yes rfl rfl (by first | rfl | assumption) ?_; first | refine O.cmp rfl rfl rfl (by first | exact decide_eq_true (by omega) | exact decide_eq_false (by omega)) rfl ?_ | refine O.cmp rfl rfl rfl rfl rfl ?_) | refine O.no rfl rfl rfl rfl ?_
  refine O.pick rfl rfl rfl rfl rfl ?_
  refine O.move rfl rfl ?_
  first | (refine O.yes rfl rfl (by first | rfl | assumption) ?_; refine O.move rfl rfl ?_) | refine O.no rfl rfl rfl rfl ?_
  first | (refine O.yes rfl rfl (by first | rfl | assumption) ?_; first | refine O.cmp rfl rfl rfl (by first | exact decide_eq_true (by omega) | exact decide_eq_false (by omega)) rfl ?_ | refine O.cmp rfl rfl rfl rfl rfl ?_) | refine O.no rfl rfl rfl rfl ?_
  refine O.pick rfl rfl rfl rfl rfl ?_
  refine O.move rfl rfl ?_
  first | (refine O.yes rfl rfl (by first | rfl | assumption) ?_; refine O.move rfl rfl ?_) | refine O.no rfl rfl rfl rfl ?_
  first | (refine O.yes rfl rfl (by first | rfl | assumption) ?_; first | refine O.cmp rfl rfl rfl (by first | exact decide_eq_true (by omega) | exact decide_eq_false (by omega)) rfl ?_ | refine O.cmp rfl rfl rfl rfl rfl ?_) | refine O.no rfl rfl rfl rfl ?_
  refine O.pick rfl rfl rfl rfl rfl ?_
  refine O.move rfl rfl ?_
  first | (refine O.yes rfl rfl (by first | rfl | assumption) ?_; refine O.move rfl rfl ?_) | refine O.no rfl rfl rfl rfl ?_
  first | (refine O.yes rfl rfl (by first | rfl | assumption) ?_; first | refine O.cmp rfl rfl rfl (by first | exact decide_eq_true (by omega) | exact decide_eq_false (by omega)) rfl ?_ | refine O.cmp rfl rfl rfl rfl rfl ?_) | refine O.no rfl rfl rfl rfl ?_
  refine O.pick rfl rfl rfl rfl rfl ?_
  refine O.move rfl rfl ?_
  first | (refine O.yes rfl rfl (by first | rfl | assumption) ?_; refine O.field hE L26 rfl rfl rfl rfl ?_) | refine O.no rfl rfl rfl rfl ?_
  first | (refine O.yes rfl rfl (by first | rfl | assumption) ?_; first | refine O.loadS hE T24 rfl rfl rfl (by rfl) rfl ?_ | refine O.loadE hE T24 rfl rfl (by rfl) rfl ?_ | refine O.load hE T24 rfl rfl rfl rfl ?_) | refine O.no rfl rfl rfl rfl ?_
  first | (refine O.yes rfl rfl (by first | rfl | assumption) ?_; first | refine O.lenN hE T24 rfl rfl rfl (by first | exact newest_pv | exact newest_gl rfl rfl | trivial) lenC rfl ?_ | refine O.lenLst hE T24 rfl rfl rfl (by first | exact newest_pv | exact newest_gl rfl rfl | trivial) rfl ?_) | refine O.no rfl rfl rfl rfl ?_
  first | (refine O.yes rfl rfl (by first | rfl | assumption) ?_; first | refine O.cmp rfl rfl rfl (by first | exact decide_eq_true (by omega) | exact decide_eq_false (by omega)) rfl ?_ | refine O.cmp rfl rfl rfl rfl rfl ?_) | refine O.no rfl rfl rfl rfl ?_
  refine O.pick rfl rfl rfl rfl rfl ?_
  refine O.move rfl rfl ?_
  first | (refine O.yes rfl rfl (by first | rfl | assumption) ?_; refine O.field hE L26 rfl rfl rfl rfl ?_) | refine O.no rfl rfl rfl rfl ?_
  first | (refine O.yes rfl rfl (by first | rfl | assumption) ?_; first | refine O.loadS hE T24 rfl rfl rfl (by rfl) rfl ?_ | refine O.loadE hE T24 rfl rfl (by rfl) rfl ?_ | refine O.load hE T24 rfl rfl rfl rfl ?_) | refine O.no rfl rfl rfl rfl ?_
  first | (refine O.yes rfl rfl (by first | rfl | assumption) ?_; first | refine O.lenN hE T24 rfl rfl rfl (by first | exact newest_pv | exact newest_gl rfl rfl | trivial) lenC rfl ?_ | refine O.lenLst hE T24 rfl rfl rfl (by first | exact newest_pv | exact newest_gl rfl rfl | trivial) rfl ?_) | refine O.no rfl rfl rfl rfl ?_
  first | (refine O.yes rfl rfl (by first | rfl | assumption) ?_; first | refine O.cmp rfl rfl rfl (by first | exact decide_eq_true (by omega) | exact decide_eq_false (by omega)) rfl ?_ | refine O.cmp rfl rfl rfl rfl rfl ?_) | refine O.no rfl rfl rfl rfl ?_
  refine O.pick rfl rfl rfl rfl rfl ?_
  refine O.move rfl rfl ?_
  first | (refine O.yes rfl rfl (by first | rfl | assumption) ?_; refine O.field hE L26 rfl rfl rfl rfl ?_) | refine O.no rfl rfl rfl rfl ?_
  first | (refine O.yes rfl rfl (by first | rfl | assumption) ?_; first | refine O.loadS hE T23 rfl rfl rfl (by rfl) rfl ?_ | refine O.loadE hE T23 rfl rfl (by rfl) rfl ?_ | refine O.load hE T23 rfl rfl rfl rfl ?_) | refine O.no rfl rfl rfl rfl ?_
  first | (refine O.yes rfl rfl (by first | rfl | assumption) ?_; first | refine O.lenN hE T23 rfl rfl rfl (by first | exact newest_pv | exact newest_gl rfl rfl | trivial) lenC rfl ?_ | refine O.lenLst hE T23 rfl rfl rfl (by first | exact newest_pv | exact newest_gl rfl rfl | trivial) rfl ?_) | refine O.no rfl rfl rfl rfl ?_
  first | (refine O.yes rfl rfl (by first | rfl | assumption) ?_; first | refine O.cmp rfl rfl rfl (by first | exact decide_eq_true (by omega) | exact decide_eq_false (by omega)) rfl ?_ | refine O.cmp rfl rfl rfl rfl rfl ?_) | refine O.no rfl rfl rfl rfl ?_
  refine O.pick rfl rfl rfl rfl rfl ?_
  refine O.nil ?_
  try refine Run.keep [0, 1, 2, 6, 7, 8, 9, 10, 11, 12, 13, 14, 15, 16, 17, 18, 19, 20, 22, 98, 107, 108, 109, 110] rfl rfl ?_
  repeat (first | refine Run.seq ?_ | refine Run.skip ?_)
  first | refine Run.condT rfl rfl ?_ | refine Run.condF rfl rfl ?_ | refine Run.condT rfl (by assumption) ?_ | refine Run.condF rfl (by assumption) ?_
  repeat (first | refine Run.seq ?_ | refine Run.skip ?_ | refine Run.block ?_)
  refine Run.draw mixed rfl ?_
  refine D.loadA (q := cel X) hE T30 rfl rfl rfl (show List.take 32 (cel X) = cel X from List.take_of_length_le (by simp [hXl])) (by simp [hXl]) rfl ?_
  refine D.field hE L26 rfl rfl rfl rfl ?_
  first | refine D.loadS hE T23 rfl rfl rfl (by rfl) rfl ?_ | refine D.loadE hE T23 rfl rfl (by rfl) rfl ?_ | refine D.load hE T23 rfl rfl rfl rfl ?_
  refine D.move rfl rfl ?_
  refine D.index hE T23 rfl T30 rfl rfl newest_pv rfl (by omega) hat0 rfl rfl rfl ?_
  refine D.loadEA hE T30 rfl rfl (by simp [PV.cells, hL0]) rfl ?_
  refine D.eqArr (c := p0) (S := X) (T := L0) hE T30 rfl T5 rfl rfl (by kernel_rfl) (by kernel_rfl) rfl rfl hXl hL0 hp0 rfl ?_
  refine D.assign rfl rfl ?_
  refine Dr.nil ?_
  refine ⟨rfl, ?_⟩
  try refine Run.keep [0, 1, 2, 6, 7, 8, 9, 10, 11, 12, 13, 14, 15, 16, 17, 18, 19, 20, 22, 98, 107, 108, 109, 110] rfl rfl ?_
  repeat (first | refine Run.seq ?_ | refine Run.skip ?_ | refine Run.block ?_)
  refine Run.region ?_
  refine O.field hE L26 rfl rfl rfl rfl ?_
  first | refine O.loadS hE T24 rfl rfl rfl (by rfl) rfl ?_ | refine O.loadE hE T24 rfl rfl (by rfl) rfl ?_ | refine O.load hE T24 rfl rfl rfl rfl ?_
  first | refine O.lenN hE T24 rfl rfl rfl (by first | exact newest_pv | exact newest_gl rfl rfl | trivial) lenC rfl ?_ | refine O.lenLst hE T24 rfl rfl rfl (by first | exact newest_pv | exact newest_gl rfl rfl | trivial) rfl ?_
  refine O.move rfl rfl ?_
  refine O.nil ?_
  try refine Run.keep [0, 1, 2, 6, 7, 8, 9, 10, 11, 12, 13, 14, 15, 16, 17, 18, 19, 20, 22, 98, 107, 108, 109, 110] rfl rfl ?_
  repeat (first | refine Run.seq ?_ | refine Run.skip ?_)
  refine Run.block ?_
  refine Run.loopInv (ι := Nat) (fun j => j ≤ Ws.length) (fun j => ⟨133, [(13, .pv (.int .i64 (i : Int))), (14, .ptr 14 0), (16, .ptr 16 0), (18, .ptr 18 0), (20, .pv (.bool (thr X L0 i Ws j))), (107, .pv (.lst 33 (Ws.map putE))), (108, .pv (.int .i64 Ws.length)), (109, .pv (.int .i64 (j : Int)))], [(14, .var (cel X)), (16, .var (cel Z)), (18, .var (cel Z))]⟩) (fun j => Ws.length - j) 0 (Nat.zero_le _) ?_ ?_
  ·
    rw [ht0]
    exact SLe.drop (by repeat (first | exact TmIn.nil | refine TmIn.cons rfl ?_)) (by repeat (first | exact BxIn.nil | refine BxIn.cons rfl ?_)) rfl (by simp only [mbx, menB, mens2_pvs, Bool.and_self])
  rintro j hj ih
  by_cases hlt : j < Ws.length
  ·
    obtain ⟨w, hv⟩ : ∃ w, Ws[j]? = some w := ⟨_, List.getElem?_eq_getElem hlt⟩
    obtain ⟨w1, w2, w3⟩ := hw w (List.mem_of_getElem? hv)
    have hat : (Ws.map putE)[(j : Int).toNat]? = some (putE w) := by rw [Int.toNat_natCast, List.getElem?_map, hv]; rfl
    have hstep : thr X L0 i Ws (j + 1) = (thr X L0 i Ws j || (decide (w.pl = i) && (w.s == X))) := by rw [thr, hv]
    generalize thr X L0 i Ws j = p at *
    obtain ⟨pl, S⟩ := w
    dsimp only at w1 w2 w3 hstep
    obtain ⟨q, hq⟩ : ∃ q, decide (pl = (i : Int)) = q := ⟨_, rfl⟩
    obtain ⟨u, hu⟩ : ∃ u, (S == X) = u := ⟨_, rfl⟩
    rw [hq, hu] at hstep
    cases p with
    | true =>
      rw [Bool.true_or] at hstep
      repeat (first | refine Run.seq ?_ | refine Run.skip ?_ | refine Run.block ?_)
      refine Run.region ?_
      first | refine O.cmp rfl rfl rfl (by first | exact decide_eq_true (by omega) | exact decide_eq_false (by omega)) rfl ?_ | refine O.cmp rfl rfl rfl rfl rfl ?_
      refine O.nil ?_
      try refine Run.keep [0, 1, 2, 6, 7, 8, 9, 10, 11, 12, 13, 14, 15, 16, 17, 18, 19, 20, 22, 98, 107, 108, 109, 110] rfl rfl ?_
      repeat (first | refine Run.seq ?_ | refine Run.skip ?_)
      first | refine Run.condT rfl rfl ?_ | refine Run.condF rfl rfl ?_ | refine Run.condT rfl (by assumption) ?_ | refine Run.condF rfl (by assumption) ?_
      repeat (first | refine Run.seq ?_ | refine Run.skip ?_ | refine Run.block ?_)
      refine Run.region ?_
      refine O.index hE T24 rfl T40 rfl rfl newest_pv rfl (by omega) hat rfl rfl rfl ?_
      refine O.loadEA hE T40 rfl rfl (by simp [PV.cells, w3]) rfl ?_
      refine O.alloc hE 22 T40 rfl rfl rfl ?_
      refine O.storeS hE T40 rfl rfl (cells_put pl S) rfl (by simp [w3]) (by simp [w3]) (setAt_all _ _ (by simp [w3])) ?_
      refine O.nil ?_
      try refine Run.keep [0, 1, 2, 6, 7, 8, 9, 10, 11, 12, 13, 14, 15, 16, 17, 18, 19, 20, 22, 98, 107, 108, 109, 110] rfl rfl ?_
      repeat (first | refine Run.seq ?_ | refine Run.skip ?_ | refine Run.block ?_)
      refine Run.region ?_
      refine O.move rfl rfl ?_
      refine O.move rfl rfl ?_
      first | (refine O.yes rfl rfl (by first | rfl | assumption) ?_; refine O.field hE L40 rfl rfl rfl rfl ?_) | refine O.no rfl rfl rfl rfl ?_
      first | (refine O.yes rfl rfl (by first | rfl | assumption) ?_; first | refine O.loadS hE T3 rfl rfl rfl (by rfl) rfl ?_ | refine O.loadE hE T3 rfl rfl (by rfl) rfl ?_ | refine O.load hE T3 rfl rfl rfl rfl ?_) | refine O.no rfl rfl rfl rfl ?_
      first | (refine O.yes rfl rfl (by first | rfl | assumption) ?_; refine O.move rfl rfl ?_) | refine O.no rfl rfl rfl rfl ?_
      first | (refine O.yes rfl rfl (by first | rfl | assumption) ?_; first | refine O.cmp rfl rfl rfl (by first | exact decide_eq_true (by omega) | exact decide_eq_false (by omega)) rfl ?_ | refine O.cmp rfl rfl rfl rfl rfl ?_) | refine O.no rfl rfl rfl rfl ?_
      first | (refine O.yes rfl rfl (by first | rfl | assumption) ?_; refine O.move rfl rfl ?_) | refine O.no rfl rfl rfl rfl ?_
      first | (refine O.yes rfl rfl (by first | rfl | assumption) ?_; refine O.field hE L40 rfl rfl rfl rfl ?_) | refine O.no rfl rfl rfl rfl ?_
      first | (refine O.yes rfl rfl (by first | rfl | assumption) ?_; refine O.load hE T30 rfl rfl rfl rfl ?_) | refine O.no rfl rfl rfl rfl ?_
      first | (refine O.yes rfl rfl (by first | rfl | assumption) ?_; refine O.load hE T30 rfl rfl rfl rfl ?_) | refine O.no rfl rfl rfl rfl ?_
      first | (refine O.yes rfl rfl (by first | rfl | assumption) ?_; refine O.bin rfl rfl rfl rfl rfl rfl rfl ?_) | refine O.no rfl rfl rfl rfl ?_
      first | (refine O.yes rfl rfl (by first | rfl | assumption) ?_; refine O.pick rfl rfl rfl rfl rfl ?_) | refine O.no rfl rfl rfl rfl ?_
      refine O.pick rfl rfl rfl rfl rfl ?_
      refine O.assign rfl rfl ?_
      refine O.nil ?_
      try refine Run.keep [0, 1, 2, 6, 7, 8, 9, 10, 11, 12, 13, 14, 15, 16, 17, 18, 19, 20, 22, 98, 107, 108, 109, 110] rfl rfl ?_
      repeat (first | refine Run.seq ?_ | refine Run.skip ?_ | refine Run.block ?_)
      refine Run.region ?_
      first | refine O.ar rfl rfl rfl (by exact wrap_i64 (by omega) (by omega)) rfl ?_ | refine O.ar rfl rfl rfl rfl rfl ?_
      refine O.move rfl rfl ?_
      refine O.nil ?_
      try refine Run.keep [0, 1, 2, 6, 7, 8, 9, 10, 11, 12, 13, 14, 15, 16, 17, 18, 19, 20, 22, 98, 107, 108, 109, 110] rfl rfl ?_
      refine ih (j + 1) _ ?_ (by omega) (by omega)
      rw [hstep]
      exact SLe.drop (by repeat (first | exact TmIn.nil | refine TmIn.cons rfl ?_)) (by repeat (first | exact BxIn.nil | refine BxIn.cons rfl ?_)) rfl (by simp only [mbx, menB, mens2_pvs, Bool.and_self])
    | false =>
      rw [Bool.false_or] at hstep
      cases q with
      | true =>
        rw [Bool.true_and] at hstep
        repeat (first | refine Run.seq ?_ | refine Run.skip ?_ | refine Run.block ?_)
        refine Run.region ?_
        first | refine O.cmp rfl rfl rfl (by first | exact decide_eq_true (by omega) | exact decide_eq_false (by omega)) rfl ?_ | refine O.cmp rfl rfl rfl rfl rfl ?_
        refine O.nil ?_
        try refine Run.keep [0, 1, 2, 6, 7, 8, 9, 10, 11, 12, 13, 14, 15, 16, 17, 18, 19, 20, 22, 98, 107, 108, 109, 110] rfl rfl ?_
        repeat (first | refine Run.seq ?_ | refine Run.skip ?_)
        first | refine Run.condT rfl rfl ?_ | refine Run.condF rfl rfl ?_ | refine Run.condT rfl (by assumption) ?_ | refine Run.condF rfl (by assumption) ?_
        repeat (first | refine Run.seq ?_ | refine Run.skip ?_ | refine Run.block ?_)
        refine Run.region ?_
        refine O.index hE T24 rfl T40 rfl rfl newest_pv rfl (by omega) hat rfl rfl rfl ?_
        refine O.loadEA hE T40 rfl rfl (by simp [PV.cells, w3]) rfl ?_
        refine O.alloc hE 22 T40 rfl rfl rfl ?_
        refine O.storeS hE T40 rfl rfl (cells_put pl S) rfl (by simp [w3]) (by simp [w3]) (setAt_all _ _ (by simp [w3])) ?_
        refine O.nil ?_
        try refine Run.keep [0, 1, 2, 6, 7, 8, 9, 10, 11, 12, 13, 14, 15, 16, 17, 18, 19, 20, 22, 98, 107, 108, 109, 110] rfl rfl ?_
        repeat (first | refine Run.seq ?_ | refine Run.skip ?_ | refine Run.block ?_)
        refine Run.region ?_
        refine O.move rfl rfl ?_
        refine O.move rfl rfl ?_
        first | (refine O.yes rfl rfl (by first | rfl | assumption) ?_; refine O.field hE L40 rfl rfl rfl rfl ?_) | refine O.no rfl rfl rfl rfl ?_
        first | (refine O.yes rfl rfl (by first | rfl | assumption) ?_; first | refine O.loadS hE T3 rfl rfl rfl (by rfl) rfl ?_ | refine O.loadE hE T3 rfl rfl (by rfl) rfl ?_ | refine O.load hE T3 rfl rfl rfl rfl ?_) | refine O.no rfl rfl rfl rfl ?_
        first | (refine O.yes rfl rfl (by first | rfl | assumption) ?_; refine O.move rfl rfl ?_) | refine O.no rfl rfl rfl rfl ?_
        first | (refine O.yes rfl rfl (by first | rfl | assumption) ?_; refine O.cmp (c' := true) rfl rfl rfl hq rfl ?_) | refine O.no rfl rfl rfl rfl ?_
        first | (refine O.yes rfl rfl (by first | rfl | assumption) ?_; refine O.move rfl rfl ?_) | refine O.no rfl rfl rfl rfl ?_
        first | (refine O.yes rfl rfl (by first | rfl | assumption) ?_; refine O.field hE L40 rfl rfl rfl rfl ?_) | refine O.no rfl rfl rfl rfl ?_
        first | (refine O.yes rfl rfl (by first | rfl | assumption) ?_; refine O.loadA (q := cel S) hE T30 rfl rfl rfl (show List.take 32 (cel S) = cel S from List.take_of_length_le (by simp [w3])) (by simp [w3]) rfl ?_) | refine O.no rfl rfl rfl rfl ?_
        first | (refine O.yes rfl rfl (by first | rfl | assumption) ?_; refine O.loadA (q := cel X) hE T30 rfl rfl rfl (show List.take 32 (cel X) = cel X from List.take_of_length_le (by simp [hXl])) (by simp [hXl]) rfl ?_) | refine O.no rfl rfl rfl rfl ?_
        first | (refine O.yes rfl rfl (by first | rfl | assumption) ?_; refine O.eqArr (c := u) (S := S) (T := X) hE T30 rfl T5 rfl rfl (by kernel_rfl) (by kernel_rfl) rfl rfl w3 hXl hu rfl ?_) | refine O.no rfl rfl rfl rfl ?_
        first | (refine O.yes rfl rfl (by first | rfl | assumption) ?_; refine O.pick rfl rfl rfl rfl rfl ?_) | refine O.no rfl rfl rfl rfl ?_
        refine O.pick rfl rfl rfl rfl rfl ?_
        refine O.assign rfl rfl ?_
        refine O.nil ?_
        try refine Run.keep [0, 1, 2, 6, 7, 8, 9, 10, 11, 12, 13, 14, 15, 16, 17, 18, 19, 20, 22, 98, 107, 108, 109, 110] rfl rfl ?_
        repeat (first | refine Run.seq ?_ | refine Run.skip ?_ | refine Run.block ?_)
        refine Run.region ?_
        first | refine O.ar rfl rfl rfl (by exact wrap_i64 (by omega) (by omega)) rfl ?_ | refine O.ar rfl rfl rfl rfl rfl ?_
        refine O.move rfl rfl ?_
        refine O.nil ?_
        try refine Run.keep [0, 1, 2, 6, 7, 8, 9, 10, 11, 12, 13, 14, 15, 16, 17, 18, 19, 20, 22, 98, 107, 108, 109, 110] rfl rfl ?_
        refine ih (j + 1) _ ?_ (by omega) (by omega)
        rw [hstep]
        exact SLe.drop (by repeat (first | exact TmIn.nil | refine TmIn.cons rfl ?_)) (by repeat (first | exact BxIn.nil | refine BxIn.cons rfl ?_)) rfl (by simp only [mbx, menB, mens2_pvs, Bool.and_self])
      | false =>
        rw [Bool.false_and] at hstep
        repeat (first | refine Run.seq ?_ | refine Run.skip ?_ | refine Run.block ?_)
        refine Run.region ?_
        first | refine O.cmp rfl rfl rfl (by first | exact decide_eq_true (by omega) | exact decide_eq_false (by omega)) rfl ?_ | refine O.cmp rfl rfl rfl rfl rfl ?_
        refine O.nil ?_
        try refine Run.keep [0, 1, 2, 6, 7, 8, 9, 10, 11, 12, 13, 14, 15, 16, 17, 18, 19, 20, 22, 98, 107, 108, 109, 110] rfl rfl ?_
        repeat (first | refine Run.seq ?_ | refine Run.skip ?_)
        first | refine Run.condT rfl rfl ?_ | refine Run.condF rfl rfl ?_ | refine Run.condT rfl (by assumption) ?_ | refine Run.condF rfl (by assumption) ?_
        repeat (first | refine Run.seq ?_ | refine Run.skip ?_ | refine Run.block ?_)
        refine Run.region ?_
        refine O.index hE T24 rfl T40 rfl rfl newest_pv rfl (by omega) hat rfl rfl rfl ?_
        refine O.loadEA hE T40 rfl rfl (by simp [PV.cells, w3]) rfl ?_
        refine O.alloc hE 22 T40 rfl rfl rfl ?_
        refine O.storeS hE T40 rfl rfl (cells_put pl S) rfl (by simp [w3]) (by simp [w3]) (setAt_all _ _ (by simp [w3])) ?_
        refine O.nil ?_
        try refine Run.keep [0, 1, 2, 6, 7, 8, 9, 10, 11, 12, 13, 14, 15, 16, 17, 18, 19, 20, 22, 98, 107, 108, 109, 110] rfl rfl ?_
        repeat (first | refine Run.seq ?_ | refine Run.skip ?_ | refine Run.block ?_)
        refine Run.region ?_
        refine O.move rfl rfl ?_
        refine O.move rfl rfl ?_
        first | (refine O.yes rfl rfl (by first | rfl | assumption) ?_; refine O.field hE L40 rfl rfl rfl rfl ?_) | refine O.no rfl rfl rfl rfl ?_
        first | (refine O.yes rfl rfl (by first | rfl | assumption) ?_; first | refine O.loadS hE T3 rfl rfl rfl (by rfl) rfl ?_ | refine O.loadE hE T3 rfl rfl (by rfl) rfl ?_ | refine O.load hE T3 rfl rfl rfl rfl ?_) | refine O.no rfl rfl rfl rfl ?_
        first | (refine O.yes rfl rfl (by first | rfl | assumption) ?_; refine O.move rfl rfl ?_) | refine O.no rfl rfl rfl rfl ?_
        first | (refine O.yes rfl rfl (by first | rfl | assumption) ?_; refine O.cmp (c' := false) rfl rfl rfl hq rfl ?_) | refine O.no rfl rfl rfl rfl ?_
        first | (refine O.yes rfl rfl (by first | rfl | assumption) ?_; refine O.move rfl rfl ?_) | refine O.no rfl rfl rfl rfl ?_
        first | (refine O.yes rfl rfl (by first | rfl | assumption) ?_; refine O.field hE L40 rfl rfl rfl rfl ?_) | refine O.no rfl rfl rfl rfl ?_
        first | (refine O.yes rfl rfl (by first | rfl | assumption) ?_; refine O.loadA (q := cel S) hE T30 rfl rfl rfl (show List.take 32 (cel S) = cel S from List.take_of_length_le (by simp [w3])) (by simp [w3]) rfl ?_) | refine O.no rfl rfl rfl rfl ?_
        first | (refine O.yes rfl rfl (by first | rfl | assumption) ?_; refine O.loadA (q := cel X) hE T30 rfl rfl rfl (show List.take 32 (cel X) = cel X from List.take_of_length_le (by simp [hXl])) (by simp [hXl]) rfl ?_) | refine O.no rfl rfl rfl rfl ?_
        first | (refine O.yes rfl rfl (by first | rfl | assumption) ?_; refine O.eqArr (c := u) (S := S) (T := X) hE T30 rfl T5 rfl rfl (by kernel_rfl) (by kernel_rfl) rfl rfl w3 hXl hu rfl ?_) | refine O.no rfl rfl rfl rfl ?_
        first | (refine O.yes rfl rfl (by first | rfl | assumption) ?_; refine O.pick rfl rfl rfl rfl rfl ?_) | refine O.no rfl rfl rfl rfl ?_
        refine O.pick rfl rfl rfl rfl rfl ?_
        refine O.assign rfl rfl ?_
        refine O.nil ?_
        try refine Run.keep [0, 1, 2, 6, 7, 8, 9, 10, 11, 12, 13, 14, 15, 16, 17, 18, 19, 20, 22, 98, 107, 108, 109, 110] rfl rfl ?_
        repeat (first | refine Run.seq ?_ | refine Run.skip ?_ | refine Run.block ?_)
        refine Run.region ?_
        first | refine O.ar rfl rfl rfl (by exact wrap_i64 (by omega) (by omega)) rfl ?_ | refine O.ar rfl rfl rfl rfl rfl ?_
        refine O.move rfl rfl ?_
        refine O.nil ?_
        try refine Run.keep [0, 1, 2, 6, 7, 8, 9, 10, 11, 12, 13, 14, 15, 16, 17, 18, 19, 20, 22, 98, 107, 108, 109, 110] rfl rfl ?_
        refine ih (j + 1) _ ?_ (by omega) (by omega)
        rw [hstep]
        exact SLe.drop (by repeat (first | exact TmIn.nil | refine TmIn.cons rfl ?_)) (by repeat (first | exact BxIn.nil | refine BxIn.cons rfl ?_)) rfl (by simp only [mbx, menB, mens2_pvs, Bool.and_self])
  obtain rfl : j = Ws.length := by omega
  rw [hyes]
  repeat (first | refine Run.seq ?_ | refine Run.skip ?_ | refine Run.block ?_)
  refine Run.region ?_
  first | refine O.cmp rfl rfl rfl (by first | exact decide_eq_true (by omega) | exact decide_eq_false (by omega)) rfl ?_ | refine O.cmp rfl rfl rfl rfl rfl ?_
  refine O.nil ?_
  try refine Run.keep [0, 1, 2, 6, 7, 8, 9, 10, 11, 12, 13, 14, 15, 16, 17, 18, 19, 20, 22, 98, 107, 108, 109, 110] rfl rfl ?_
  repeat (first | refine Run.seq ?_ | refine Run.skip ?_)
  first | refine Run.condT rfl rfl ?_ | refine Run.condF rfl rfl ?_ | refine Run.condT rfl (by assumption) ?_ | refine Run.condF rfl (by assumption) ?_
  refine Run.exit ?_
  repeat (first | refine thenR_exit ?_ | refine roundR_exit ?_ | refine blockR_exit ?_ | refine blockR_pass rfl ?_)
  repeat (first | refine Run.seq ?_ | refine Run.skip ?_ | refine Run.block ?_)
  refine Run.region ?_
  refine O.move rfl rfl ?_
  refine O.move rfl rfl ?_
  first | (refine O.yes rfl rfl (by first | rfl | assumption) ?_; refine O.loadA (q := cel Z) hE T30 rfl rfl rfl (show List.take 32 (cel Z) = cel Z from List.take_of_length_le (by simp [hZl])) (by simp [hZl]) rfl ?_) | refine O.no rfl rfl rfl rfl ?_
  first | (refine O.yes rfl rfl (by first | rfl | assumption) ?_; refine O.loadA (q := cel Z) hE T30 rfl rfl rfl (show List.take 32 (cel Z) = cel Z from List.take_of_length_le (by simp [hZl])) (by simp [hZl]) rfl ?_) | refine O.no rfl rfl rfl rfl ?_
  first | (refine O.yes rfl rfl (by first | rfl | assumption) ?_; refine O.eqArr (c := true) (S := Z) (T := Z) hE T30 rfl T5 rfl rfl (by kernel_rfl) (by kernel_rfl) rfl rfl hZl hZl hZZ rfl ?_) | refine O.no rfl rfl rfl rfl ?_
  refine O.pick rfl rfl rfl rfl rfl ?_
  refine O.assign rfl rfl ?_
  refine O.nil ?_
  try refine Run.keep [0, 1, 2, 6, 7, 8, 9, 10, 11, 12, 13, 14, 15, 16, 17, 18, 19, 20, 22, 98, 107, 108, 109, 110] rfl rfl ?_
  (repeat (first | refine Run.seq ?_ | refine Run.skip ?_)); (try refine Run.ret ?_); first | exact Ends.flat hE (.inr rfl) rfl rfl (AVle.of_eq rfl) rfl | exact Ends.flat hE (.inl rfl) rfl rfl (AVle.of_eq rfl) rfl
end Go.Proofs.Ytokjeodlcilfpaa.Vm
