/- DiskLast: its walk. Conditions: none. -/
import Derived.Test.YtokjeodlcilfpaaDiskE
namespace Go.Proofs.Ytokjeodlcilfpaa.Vm
open Go Go.RowKit
set_option linter.unusedVariables false
set_option linter.unusedSimpArgs false
attribute [local irreducible] Ops Dr Run
variable {g : Nat → Option (List PV)}
theorem rdS_app {Ls : List (List Int)} {Ws : List Pt} (i : Nat) (ps : List Pt) : ∀ j, j ≤ Ws.length → rdS Ls i (Ws ++ ps) j = rdS Ls i Ws j
  | 0, _ => rfl
  | j + 1, h => by
    rw [rdS, rdS, List.getElem?_append_left (by omega), rdS_app i ps j (by omega)]
theorem rdS_new {Ls : List (List Int)} {Ws : List Pt} (i j : Nat) (S : List Int) : rdS Ls i (Ws ++ [(⟨(j : Int), S⟩ : Pt)]) (Ws ++ [(⟨(j : Int), S⟩ : Pt)]).length = if j = i then S else rdS Ls i Ws Ws.length := by
  rw [List.length_append, show Ws.length + [(⟨j, S⟩ : Pt)].length = Ws.length + 1 from rfl, rdS, List.getElem?_append_right (Nat.le_refl _), Nat.sub_self]
  simp only [List.getElem?_cons_zero]
  rw [rdS_app i _ Ws.length (Nat.le_refl _)]
  by_cases h : j = i
  · rw [if_pos h, if_pos (by omega)]
  · rw [if_neg h, if_neg (by omega)]
theorem fnDiskLast {rs : List Rw} (a v b : Int) (hl : (rs.length : Int) ≤ 9223372036854775807) : FnC (En Try.prog g) 3 [.pv (.lst 4 (rs.map rawE)), .pv (.int .i64 a), .pv (.int .u8 v), .pv (.int .i64 b)] (.pv (.bool true)) [] := by
  have hE := EnOk g
  obtain ⟨Ls, Ws, hd, h6, hw, c1⟩ := fnWritten (g := g) hl
  have c2 := fnPick (g := g) (a := a) (m := 6) (by omega) (by omega)
  have c3 := fnPick (g := g) (a := b) (m := 6) (by omega) (by omega)
  obtain ⟨i, hi, hi6⟩ : ∃ i : Nat, a % 6 = (i : Int) ∧ i < Ls.length := ⟨(a % 6).toNat, by omega, by omega⟩
  obtain ⟨j, hj, hj6⟩ : ∃ j : Nat, b % 6 = (j : Int) ∧ j < Ls.length := ⟨(b % 6).toNat, by omega, by omega⟩
  rw [hi] at c2
  rw [hj] at c3
  clear hi hj
  obtain ⟨B, hB⟩ : ∃ B : List Int, B = [v, 0, 0, 0, 0, 0, 0, 0, 0, 0, 0, 0, 0, 0, 0, 0, 0, 0, 0, 0, 0, 0, 0, 0, 0, 0, 0, 0, 0, 0, 0, 7] := ⟨_, rfl⟩
  have hBl : B.length = 32 := by rw [hB]; rfl
  have c4 := fnDWrite (g := g) hd (by omega) hi6 hBl
  have hd2 := hd.written (by omega) hi6 hBl
  have c5 := fnDRead (g := g) hd2 hi6
  have c6 := fnDRead (g := g) hd2 hj6
  have c7 := fnDRead (g := g) hd hj6
  rw [rdS_new, if_pos rfl] at c5
  rw [rdS_new] at c6
  have hZ := rdS_len hd hj6 Ws.length
  generalize rdS Ls j Ws Ws.length = Z at *
  obtain ⟨Y, hY⟩ : ∃ Y, (if i = j then B else Z) = Y := ⟨_, rfl⟩
  rw [hY] at c6
  have hYl : Y.length = 32 := by rw [← hY]; split <;> assumption
  obtain ⟨p, hp⟩ : ∃ p, (Y == Z) = p := ⟨_, rfl⟩
  have hpi : p = true ∨ i = j := by
    by_cases h : i = j
    · exact .inr h
    · rw [if_neg h] at hY
      subst hY
      left
      rw [← hp]
      exact beq_self_eq_true _
  have hBB : (B == B) = true := beq_self_eq_true _
  clear hY hd hd2
  refine FnC.of Try.func3 rfl rfl rfl rfl ?_
  repeat (first | refine Run.seq ?_ | refine Run.skip ?_ | refine Run.block ?_)
  refine Run.region ?_
  refine O.assign rfl rfl ?_
  refine O.nil ?_
  try refine Run.keep [0, 1, 2, 3, 8, 9, 10, 11, 12, 13, 14, 15, 16, 17, 18, 19, 20, 21] rfl rfl ?_
  repeat (first | refine Run.seq ?_ | refine Run.skip ?_ | refine Run.block ?_)
  refine Run.region ?_
  refine O.move rfl rfl ?_
  refine O.callE c1 rfl (by first | rfl | simp [closed, men3, mens2_app, mens2_ints, mens2, men2, men1, mens1_app, mens1_ints, mens1]) (by first | rfl | simp [d2, ds1_ints, ds1_app, ds1, d1, ds0_app, ds0_ints, ds0, d0]) rfl ?_
  refine O.move rfl rfl ?_
  refine O.extract rfl rfl rfl ?_
  refine O.extract rfl rfl rfl ?_
  refine O.alloc hE 9 T26 rfl rfl rfl ?_
  refine O.store hE T26 rfl rfl rfl rfl rfl rfl ?_
  refine O.assign rfl rfl ?_
  refine O.nil ?_
  try refine Run.keep [0, 1, 2, 3, 8, 9, 10, 11, 12, 13, 14, 15, 16, 17, 18, 19, 20, 21] rfl rfl ?_
  repeat (first | refine Run.seq ?_ | refine Run.skip ?_ | refine Run.block ?_)
  refine Run.region ?_
  refine O.move rfl rfl ?_
  refine O.callE c2 rfl (by first | rfl | simp [closed, men3, mens2_app, mens2_ints, mens2, men2, men1, mens1_app, mens1_ints, mens1]) (by first | rfl | simp [d2, ds1_ints, ds1_app, ds1, d1, ds0_app, ds0_ints, ds0, d0]) rfl ?_
  refine O.move rfl rfl ?_
  refine O.callE c3 rfl (by first | rfl | simp [closed, men3, mens2_app, mens2_ints, mens2, men2, men1, mens1_app, mens1_ints, mens1]) (by first | rfl | simp [d2, ds1_ints, ds1_app, ds1, d1, ds0_app, ds0_ints, ds0, d0]) rfl ?_
  refine O.assign rfl rfl ?_
  refine O.assign rfl rfl ?_
  refine O.nil ?_
  try refine Run.keep [0, 1, 2, 3, 8, 9, 10, 11, 12, 13, 14, 15, 16, 17, 18, 19, 20, 21] rfl rfl ?_
  repeat (first | refine Run.seq ?_ | refine Run.skip ?_ | refine Run.block ?_)
  refine Run.region ?_
  refine O.move rfl rfl ?_
  refine O.buildArr hE T30 rfl T5 rfl rfl rfl ?_
  first | refine O.allocS hE 13 T30 ints_zero rfl rfl ?_ | refine O.alloc hE 13 T30 rfl rfl rfl ?_
  refine O.storeS (cs' := cel B) hE T30 rfl rfl rfl rfl rfl (by simp [ints_len]) (by rw [setAt_all _ _ (by simp [ints_len]), hB]; rfl) ?_
  refine O.nil ?_
  try refine Run.keep [0, 1, 2, 3, 8, 9, 10, 11, 12, 13, 14, 15, 16, 17, 18, 19, 20, 21] rfl rfl ?_
  repeat (first | refine Run.seq ?_ | refine Run.skip ?_ | refine Run.block ?_)
  refine Run.region ?_
  refine O.load hE T26 rfl rfl rfl rfl ?_
  refine O.move rfl rfl ?_
  refine O.loadA (q := cel B) hE T30 rfl rfl rfl (show List.take 32 (cel B) = cel B from List.take_of_length_le (by simp [hBl])) (by simp [hBl]) rfl ?_
  refine O.callE c4 rfl (by simp only [closed, men3, mens2, men2, mens1, mens2_pvs, mens1_pvs, men1, Bool.and_self, Bool.and_true]) rfl rfl ?_
  refine O.move rfl rfl ?_
  refine O.extract rfl rfl rfl ?_
  refine O.extract rfl rfl rfl ?_
  refine O.alloc hE 14 T26 rfl rfl rfl ?_
  refine O.store hE T26 rfl rfl rfl rfl rfl rfl ?_
  refine O.assign rfl rfl ?_
  refine O.nil ?_
  try refine Run.keep [0, 1, 2, 3, 8, 9, 10, 11, 12, 13, 14, 15, 16, 17, 18, 19, 20, 21] rfl rfl ?_
  repeat (first | refine Run.seq ?_ | refine Run.skip ?_ | refine Run.block ?_)
  refine Run.region ?_
  refine O.load hE T26 rfl rfl rfl rfl ?_
  refine O.move rfl rfl ?_
  refine O.callE c5 rfl rfl (by simp only [d2, ds1, d1, ds0_pvs, Bool.and_self]) rfl ?_
  refine O.move rfl rfl ?_
  refine O.extract rfl rfl rfl ?_
  refine O.extract rfl rfl rfl ?_
  first | refine O.allocS hE 16 T30 ints_zero rfl rfl ?_ | refine O.alloc hE 16 T30 rfl rfl rfl ?_
  refine O.storeS hE T30 rfl rfl (cells_cel B) rfl (by simp [hBl]) (by simp [ints_len, hBl]) (setAt_all _ _ (by simp [ints_len, hBl])) ?_
  refine O.assign rfl rfl ?_
  refine O.nil ?_
  try refine Run.keep [0, 1, 2, 3, 8, 9, 10, 11, 12, 13, 14, 15, 16, 17, 18, 19, 20, 21] rfl rfl ?_
  repeat (first | refine Run.seq ?_ | refine Run.skip ?_ | refine Run.block ?_)
  refine Run.region ?_
  refine O.load hE T26 rfl rfl rfl rfl ?_
  refine O.move rfl rfl ?_
  refine O.callE c6 rfl rfl (by simp only [d2, ds1, d1, ds0_pvs, Bool.and_self]) rfl ?_
  refine O.move rfl rfl ?_
  refine O.extract rfl rfl rfl ?_
  refine O.extract rfl rfl rfl ?_
  first | refine O.allocS hE 18 T30 ints_zero rfl rfl ?_ | refine O.alloc hE 18 T30 rfl rfl rfl ?_
  refine O.storeS hE T30 rfl rfl (cells_cel Y) rfl (by simp [hYl]) (by simp [ints_len, hYl]) (setAt_all _ _ (by simp [ints_len, hYl])) ?_
  refine O.assign rfl rfl ?_
  refine O.nil ?_
  try refine Run.keep [0, 1, 2, 3, 8, 9, 10, 11, 12, 13, 14, 15, 16, 17, 18, 19, 20, 21] rfl rfl ?_
  repeat (first | refine Run.seq ?_ | refine Run.skip ?_ | refine Run.block ?_)
  refine Run.region ?_
  refine O.load hE T26 rfl rfl rfl rfl ?_
  refine O.move rfl rfl ?_
  refine O.callE c7 rfl rfl (by simp only [d2, ds1, d1, ds0_pvs, Bool.and_self]) rfl ?_
  refine O.move rfl rfl ?_
  refine O.extract rfl rfl rfl ?_
  refine O.extract rfl rfl rfl ?_
  first | refine O.allocS hE 20 T30 ints_zero rfl rfl ?_ | refine O.alloc hE 20 T30 rfl rfl rfl ?_
  refine O.storeS hE T30 rfl rfl (cells_cel Z) rfl (by simp [hZ]) (by simp [ints_len, hZ]) (setAt_all _ _ (by simp [ints_len, hZ])) ?_
  refine O.assign rfl rfl ?_
  refine O.nil ?_
  try refine Run.keep [0, 1, 2, 3, 8, 9, 10, 11, 12, 13, 14, 15, 16, 17, 18, 19, 20, 21] rfl rfl ?_
  cases p with
  | true =>
    repeat (first | refine Run.seq ?_ | refine Run.skip ?_ | refine Run.block ?_)
    refine Run.region ?_
    refine O.move rfl rfl ?_
    refine O.move rfl rfl ?_
    first | (refine O.yes rfl rfl (by first | rfl | assumption) ?_; refine O.move rfl rfl ?_) | refine O.no rfl rfl rfl rfl ?_
    first | (refine O.yes rfl rfl (by first | rfl | assumption) ?_; first | refine O.cmp rfl rfl rfl (by first | exact decide_eq_true (by omega) | exact decide_eq_false (by omega)) rfl ?_ | refine O.cmp rfl rfl rfl rfl rfl ?_) | refine O.no rfl rfl rfl rfl ?_
    refine O.pick rfl rfl rfl rfl rfl ?_
    refine O.move rfl rfl ?_
    first | (refine O.yes rfl rfl (by first | rfl | assumption) ?_; refine O.move rfl rfl ?_) | refine O.no rfl rfl rfl rfl ?_
    first | (refine O.yes rfl rfl (by first | rfl | assumption) ?_; first | refine O.cmp rfl rfl rfl (by first | exact decide_eq_true (by omega) | exact decide_eq_false (by omega)) rfl ?_ | refine O.cmp rfl rfl rfl rfl rfl ?_) | refine O.no rfl rfl rfl rfl ?_
    refine O.pick rfl rfl rfl rfl rfl ?_
    refine O.move rfl rfl ?_
    first | (refine O.yes rfl rfl (by first | rfl | assumption) ?_; refine O.move rfl rfl ?_) | refine O.no rfl rfl rfl rfl ?_
    first | (refine O.yes rfl rfl (by first | rfl | assumption) ?_; first | refine O.cmp rfl rfl rfl (by first | exact decide_eq_true (by omega) | exact decide_eq_false (by omega)) rfl ?_ | refine O.cmp rfl rfl rfl rfl rfl ?_) | refine O.no rfl rfl rfl rfl ?_
    refine O.pick rfl rfl rfl rfl rfl ?_
    refine O.move rfl rfl ?_
    first | (refine O.yes rfl rfl (by first | rfl | assumption) ?_; refine O.move rfl rfl ?_) | refine O.no rfl rfl rfl rfl ?_
    first | (refine O.yes rfl rfl (by first | rfl | assumption) ?_; first | refine O.cmp rfl rfl rfl (by first | exact decide_eq_true (by omega) | exact decide_eq_false (by omega)) rfl ?_ | refine O.cmp rfl rfl rfl rfl rfl ?_) | refine O.no rfl rfl rfl rfl ?_
    refine O.pick rfl rfl rfl rfl rfl ?_
    refine O.move rfl rfl ?_
    first | (refine O.yes rfl rfl (by first | rfl | assumption) ?_; refine O.loadA (q := cel B) hE T30 rfl rfl rfl (show List.take 32 (cel B) = cel B from List.take_of_length_le (by simp [hBl])) (by simp [hBl]) rfl ?_) | refine O.no rfl rfl rfl rfl ?_
    first | (refine O.yes rfl rfl (by first | rfl | assumption) ?_; refine O.loadA (q := cel B) hE T30 rfl rfl rfl (show List.take 32 (cel B) = cel B from List.take_of_length_le (by simp [hBl])) (by simp [hBl]) rfl ?_) | refine O.no rfl rfl rfl rfl ?_
    first | (refine O.yes rfl rfl (by first | rfl | assumption) ?_; refine O.eqArr (c := true) (S := B) (T := B) hE T30 rfl T5 rfl rfl (by kernel_rfl) (by kernel_rfl) rfl rfl hBl hBl hBB rfl ?_) | refine O.no rfl rfl rfl rfl ?_
    refine O.pick rfl rfl rfl rfl rfl ?_
    refine O.move rfl rfl ?_
    first | (refine O.yes rfl rfl (by first | rfl | assumption) ?_; refine O.loadA (q := cel Y) hE T30 rfl rfl rfl (show List.take 32 (cel Y) = cel Y from List.take_of_length_le (by simp [hYl])) (by simp [hYl]) rfl ?_) | refine O.no rfl rfl rfl rfl ?_
    first | (refine O.yes rfl rfl (by first | rfl | assumption) ?_; refine O.loadA (q := cel Z) hE T30 rfl rfl rfl (show List.take 32 (cel Z) = cel Z from List.take_of_length_le (by simp [hZ])) (by simp [hZ]) rfl ?_) | refine O.no rfl rfl rfl rfl ?_
    first | (refine O.yes rfl rfl (by first | rfl | assumption) ?_; refine O.eqArr (c := true) (S := Y) (T := Z) hE T30 rfl T5 rfl rfl (by kernel_rfl) (by kernel_rfl) rfl rfl hYl hZ hp rfl ?_) | refine O.no rfl rfl rfl rfl ?_
    first | (refine O.yes rfl rfl (by first | rfl | assumption) ?_; refine O.move rfl rfl ?_) | refine O.no rfl rfl rfl rfl ?_
    first | (refine O.yes rfl rfl (by first | rfl | assumption) ?_; refine O.move rfl rfl ?_) | refine O.no rfl rfl rfl rfl ?_
    first | (refine O.yes rfl rfl (by first | rfl | assumption) ?_; refine O.move rfl rfl ?_) | refine O.no rfl rfl rfl rfl ?_
    first | (refine O.yes rfl rfl (by first | rfl | assumption) ?_; refine O.cmp (c' := true) rfl rfl rfl (by simp) rfl ?_) | refine O.no rfl rfl rfl rfl ?_
    first | (refine O.yes rfl rfl (by first | rfl | assumption) ?_; refine O.pick rfl rfl rfl rfl rfl ?_) | refine O.no rfl rfl rfl rfl ?_
    refine O.pick rfl rfl rfl rfl rfl ?_
    refine O.assign rfl rfl ?_
    refine O.nil ?_
    try refine Run.keep [0, 1, 2, 3, 8, 9, 10, 11, 12, 13, 14, 15, 16, 17, 18, 19, 20, 21] rfl rfl ?_
    (repeat (first | refine Run.seq ?_ | refine Run.skip ?_)); (try refine Run.ret ?_); first | exact Ends.flat hE (.inr rfl) rfl rfl (AVle.of_eq rfl) rfl | exact Ends.flat hE (.inl rfl) rfl rfl (AVle.of_eq rfl) rfl
  | false =>
    have hij : i = j := by
      rcases hpi with h | h
      · cases h
      · exact h
    repeat (first | refine Run.seq ?_ | refine Run.skip ?_ | refine Run.block ?_)
    refine Run.region ?_
    refine O.move rfl rfl ?_
    refine O.move rfl rfl ?_
    first | (refine O.yes rfl rfl (by first | rfl | assumption) ?_; refine O.move rfl rfl ?_) | refine O.no rfl rfl rfl rfl ?_
    first | (refine O.yes rfl rfl (by first | rfl | assumption) ?_; first | refine O.cmp rfl rfl rfl (by first | exact decide_eq_true (by omega) | exact decide_eq_false (by omega)) rfl ?_ | refine O.cmp rfl rfl rfl rfl rfl ?_) | refine O.no rfl rfl rfl rfl ?_
    refine O.pick rfl rfl rfl rfl rfl ?_
    refine O.move rfl rfl ?_
    first | (refine O.yes rfl rfl (by first | rfl | assumption) ?_; refine O.move rfl rfl ?_) | refine O.no rfl rfl rfl rfl ?_
    first | (refine O.yes rfl rfl (by first | rfl | assumption) ?_; first | refine O.cmp rfl rfl rfl (by first | exact decide_eq_true (by omega) | exact decide_eq_false (by omega)) rfl ?_ | refine O.cmp rfl rfl rfl rfl rfl ?_) | refine O.no rfl rfl rfl rfl ?_
    refine O.pick rfl rfl rfl rfl rfl ?_
    refine O.move rfl rfl ?_
    first | (refine O.yes rfl rfl (by first | rfl | assumption) ?_; refine O.move rfl rfl ?_) | refine O.no rfl rfl rfl rfl ?_
    first | (refine O.yes rfl rfl (by first | rfl | assumption) ?_; first | refine O.cmp rfl rfl rfl (by first | exact decide_eq_true (by omega) | exact decide_eq_false (by omega)) rfl ?_ | refine O.cmp rfl rfl rfl rfl rfl ?_) | refine O.no rfl rfl rfl rfl ?_
    refine O.pick rfl rfl rfl rfl rfl ?_
    refine O.move rfl rfl ?_
    first | (refine O.yes rfl rfl (by first | rfl | assumption) ?_; refine O.move rfl rfl ?_) | refine O.no rfl rfl rfl rfl ?_
    first | (refine O.yes rfl rfl (by first | rfl | assumption) ?_; first | refine O.cmp rfl rfl rfl (by first | exact decide_eq_true (by omega) | exact decide_eq_false (by omega)) rfl ?_ | refine O.cmp rfl rfl rfl rfl rfl ?_) | refine O.no rfl rfl rfl rfl ?_
    refine O.pick rfl rfl rfl rfl rfl ?_
    refine O.move rfl rfl ?_
    first | (refine O.yes rfl rfl (by first | rfl | assumption) ?_; refine O.loadA (q := cel B) hE T30 rfl rfl rfl (show List.take 32 (cel B) = cel B from List.take_of_length_le (by simp [hBl])) (by simp [hBl]) rfl ?_) | refine O.no rfl rfl rfl rfl ?_
    first | (refine O.yes rfl rfl (by first | rfl | assumption) ?_; refine O.loadA (q := cel B) hE T30 rfl rfl rfl (show List.take 32 (cel B) = cel B from List.take_of_length_le (by simp [hBl])) (by simp [hBl]) rfl ?_) | refine O.no rfl rfl rfl rfl ?_
    first | (refine O.yes rfl rfl (by first | rfl | assumption) ?_; refine O.eqArr (c := true) (S := B) (T := B) hE T30 rfl T5 rfl rfl (by kernel_rfl) (by kernel_rfl) rfl rfl hBl hBl hBB rfl ?_) | refine O.no rfl rfl rfl rfl ?_
    refine O.pick rfl rfl rfl rfl rfl ?_
    refine O.move rfl rfl ?_
    first | (refine O.yes rfl rfl (by first | rfl | assumption) ?_; refine O.loadA (q := cel Y) hE T30 rfl rfl rfl (show List.take 32 (cel Y) = cel Y from List.take_of_length_le (by simp [hYl])) (by simp [hYl]) rfl ?_) | refine O.no rfl rfl rfl rfl ?_
    first | (refine O.yes rfl rfl (by first | rfl | assumption) ?_; refine O.loadA (q := cel Z) hE T30 rfl rfl rfl (show List.take 32 (cel Z) = cel Z from List.take_of_length_le (by simp [hZ])) (by simp [hZ]) rfl ?_) | refine O.no rfl rfl rfl rfl ?_
    first | (refine O.yes rfl rfl (by first | rfl | assumption) ?_; refine O.eqArr (c := false) (S := Y) (T := Z) hE T30 rfl T5 rfl rfl (by kernel_rfl) (by kernel_rfl) rfl rfl hYl hZ hp rfl ?_) | refine O.no rfl rfl rfl rfl ?_
    first | (refine O.yes rfl rfl (by first | rfl | assumption) ?_; refine O.move rfl rfl ?_) | refine O.no rfl rfl rfl rfl ?_
    first | (refine O.yes rfl rfl (by first | rfl | assumption) ?_; refine O.move rfl rfl ?_) | refine O.no rfl rfl rfl rfl ?_
    first | (refine O.yes rfl rfl (by first | rfl | assumption) ?_; refine O.move rfl rfl ?_) | refine O.no rfl rfl rfl rfl ?_
    first | (refine O.yes rfl rfl (by first | rfl | assumption) ?_; refine O.cmp (c' := true) rfl rfl rfl (decide_eq_true (by omega)) rfl ?_) | refine O.no rfl rfl rfl rfl ?_
    first | (refine O.yes rfl rfl (by first | rfl | assumption) ?_; refine O.pick rfl rfl rfl rfl rfl ?_) | refine O.no rfl rfl rfl rfl ?_
    refine O.pick rfl rfl rfl rfl rfl ?_
    refine O.assign rfl rfl ?_
    refine O.nil ?_
    try refine Run.keep [0, 1, 2, 3, 8, 9, 10, 11, 12, 13, 14, 15, 16, 17, 18, 19, 20, 21] rfl rfl ?_
    (repeat (first | refine Run.seq ?_ | refine Run.skip ?_)); (try refine Run.ret ?_); first | exact Ends.flat hE (.inr rfl) rfl rfl (AVle.of_eq rfl) rfl | exact Ends.flat hE (.inl rfl) rfl rfl (AVle.of_eq rfl) rfl
end Go.Proofs.Ytokjeodlcilfpaa.Vm
