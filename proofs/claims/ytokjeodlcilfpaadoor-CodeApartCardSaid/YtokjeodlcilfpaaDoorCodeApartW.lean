/- CodeApart: its walk, over what its parts answer. Conditions: none. -/
import Derived.Test.YtokjeodlcilfpaaDoorCodeI
namespace Go.Proofs.YtokjeodlcilfpaaDoor.Vm
open Go Go.RowKit Go.Lib
set_option linter.unusedVariables false
set_option linter.unusedSimpArgs false
attribute [local irreducible] Ops Dr Run eightU esc turnU oneP encP
variable {g : Nat → Option (List PV)}
section
variable {E : Env} {n : Nat} {tm : List (Nat × AV)} {bx : List (Nat × Box)} {ops : Array Oper} {l : List Oper} {d : Tmp} {ty : TypeId} {pos : String} {after : Array Edge}
theorem O.maxI {Θ : St → Prop} {x y : Operand} {ts : Array TypeId} {k k' : IntKind} {m j r : Int} (hx : evO E tm x = some (.pv (.int k m))) (hy : evO E tm y = some (.pv (.int k' j))) (hr : (if j > m then j else m) = r) (hd : Nat.blt d n = true) (h : Ops E.P E.g ops l ⟨n, (d, .pv (.int k r)) :: tm, bx⟩ Θ) :
    Ops E.P E.g ops (⟨some d, .call { callee := .builtin .max, args := #[x, y], argTypes := ts }, ty, pos, after, none⟩ :: l) ⟨n, tm, bx⟩ Θ := by
  subst hr
  exact O.max hx hy hd h
end
theorem apart_walk {rs : List Rw} {down cut k M f : Int} {vs : List Vl} {b : List Int} {x : PV} (hl : vs.length ≤ 5) (hb : b.length ≤ 415)
    (c1 : FnC (En Tryd.prog g) 24 [.pv (.lst 4 (rs.map rawE))] (.pv (.lst 4 (vs.map vlE))) [])
    (c2 : FnC (En Tryd.prog g) 25 [.pv (.lst 4 (vs.map vlE)), .pv (.int .i64 down)] (.tup [.pv (byv b), .pv (.int .i64 0)]) [])
    (hM : (if (1 : Int) > (b.length : Int) then 1 else (b.length : Int)) = M)
    (c3 : FnC (En Tryd.prog g) 16 [.pv (.int .i64 cut), .pv (.int .i64 M)] (.pv (.int .i64 k)) [])
    (hk0 : 0 ≤ k) (hk1 : k < M)
    (c4 : FnC (En Tryd.prog g) 26 [.pv (byv (b.take k.toNat)), .pv (.int .i64 vs.length), .pv (.int .i64 down)] (.tup [.pv x, .pv (.int .i64 f)]) [])
    (hfx : b = [] ∨ b ≠ [] ∧ f = 4)
    (c5 : FnC (En Tryd.prog g) 26 [.pv (byv (b ++ [7])), .pv (.int .i64 vs.length), .pv (.int .i64 down)] (.tup [.pv .nil, .pv (.int .i64 3)]) [])
    (c6 : FnC (En Tryd.prog g) 27 [] (.pv (.bool true)) []) :
    FnC (En Tryd.prog g) 9 [.pv (.lst 4 (rs.map rawE)), .pv (.int .i64 down), .pv (.int .i64 cut)] (.pv (.bool true)) [] := by
  have hE := EnOk g
  have hbl : ((b.map (PV.int .u8)).length : Int) = b.length := by simp
  have hlm : (((vs.map vlE).length : Nat) : Int) = vs.length := by simp
  have hmn : (if (b.length : Int) < k then (b.length : Int) else k) = if b.length = 0 then 0 else k := by
    by_cases h : b.length = 0
    · rw [if_pos h]; split <;> omega
    · rw [if_neg h]; split at hM <;> split <;> omega
  have hk' : ∃ q : Int, (if (b.length : Int) < k then (b.length : Int) else k) = q ∧ 0 ≤ q ∧ q ≤ b.length ∧ q = k := by
    by_cases h : b.length = 0
    · refine ⟨k, ?_, hk0, ?_, rfl⟩
      all_goals (split at hM <;> first | (split <;> omega) | omega)
    · refine ⟨k, ?_, hk0, ?_, rfl⟩
      all_goals (split at hM <;> first | (split <;> omega) | omega)
  obtain ⟨q, hq, hq0, hq1, rfl⟩ := hk'
  have hsl : ((b.map (PV.int .u8)).take q.toNat).drop (0 : Int).toNat = (b.take q.toNat).map (PV.int .u8) := by rw [List.map_take]; rfl
  refine FnC.of Tryd.func9 rfl rfl rfl rfl ?_
  repeat (first | refine Run.seq ?_ | refine Run.skip ?_ | refine Run.block ?_)
  refine Run.region ?_
  refine O.assign rfl rfl ?_
  refine O.nil ?_
  try refine Run.keep [0, 1, 2, 6, 7, 8, 9, 10, 12, 14] rfl rfl ?_
  repeat (first | refine Run.seq ?_ | refine Run.skip ?_ | refine Run.block ?_)
  refine Run.region ?_
  refine O.move rfl rfl ?_
  refine O.callE c1 rfl (by first | rfl | simp [closed, men3, mens2_app, mens2_ints, mens2, men2, men1, mens1_app, mens1_ints, mens1]) (by first | rfl | simp [d2, ds1_ints, ds1_app, ds1, d1, ds0_app, ds0_ints, ds0, d0]) rfl ?_
  refine O.assign rfl rfl ?_
  refine O.nil ?_
  try refine Run.keep [0, 1, 2, 6, 7, 8, 9, 10, 12, 14] rfl rfl ?_
  repeat (first | refine Run.seq ?_ | refine Run.skip ?_ | refine Run.block ?_)
  refine Run.region ?_
  refine O.move rfl rfl ?_
  refine O.move rfl rfl ?_
  refine O.callE c2 rfl (by first | rfl | simp [closed, men3, mens2_app, mens2_ints, mens2, men2, men1, mens1_app, mens1_ints, mens1]) (by first | rfl | simp [d2, ds1_ints, ds1_app, ds1, d1, ds0_app, ds0_ints, ds0, d0]) rfl ?_
  refine O.move rfl rfl ?_
  refine O.extract rfl rfl rfl ?_
  refine O.extract rfl rfl rfl ?_
  refine O.assign rfl rfl ?_
  refine O.assign rfl rfl ?_
  refine O.nil ?_
  try refine Run.keep [0, 1, 2, 6, 7, 8, 9, 10, 12, 14] rfl rfl ?_
  repeat (first | refine Run.seq ?_ | refine Run.skip ?_ | refine Run.block ?_)
  refine Run.region ?_
  refine O.move rfl rfl ?_
  refine O.move rfl rfl ?_
  refine O.lenN hE T33 rfl rfl rfl newest_pv hbl rfl ?_
  refine O.maxI rfl rfl hM rfl ?_
  refine O.callE c3 rfl (by first | rfl | simp [closed, men3, mens2_app, mens2_ints, mens2, men2, men1, mens1_app, mens1_ints, mens1]) (by first | rfl | simp [d2, ds1_ints, ds1_app, ds1, d1, ds0_app, ds0_ints, ds0, d0]) rfl ?_
  refine O.assign rfl rfl ?_
  refine O.nil ?_
  try refine Run.keep [0, 1, 2, 6, 7, 8, 9, 10, 12, 14] rfl rfl ?_
  repeat (first | refine Run.seq ?_ | refine Run.skip ?_ | refine Run.block ?_)
  refine Run.region ?_
  refine O.move rfl rfl ?_
  refine O.move rfl rfl ?_
  refine O.move rfl rfl ?_
  refine O.lenN hE T33 rfl rfl rfl newest_pv hbl rfl ?_
  refine O.minI rfl rfl hq rfl ?_
  refine O.slice hE T33 rfl T5 rfl rfl newest_pv rfl rfl rfl (by omega) (by omega) (by rw [hbl]; omega) hsl rfl ?_
  refine O.move rfl rfl ?_
  refine O.lenN hE T53 rfl rfl rfl newest_pv hlm rfl ?_
  refine O.move rfl rfl ?_
  refine O.callE c4 rfl (by first | rfl | simp [closed, men3, mens2_app, mens2_ints, mens2, men2, men1, mens1_app, mens1_ints, mens1]) (by first | rfl | simp [d2, ds1_ints, ds1_app, ds1, d1, ds0_app, ds0_ints, ds0, d0]) rfl ?_
  refine O.move rfl rfl ?_
  refine O.extract rfl rfl rfl ?_
  refine O.extract rfl rfl rfl ?_
  refine O.assign rfl rfl ?_
  refine O.assign rfl rfl ?_
  refine O.nil ?_
  try refine Run.keep [0, 1, 2, 6, 7, 8, 9, 10, 12, 14] rfl rfl ?_
  repeat (first | refine Run.seq ?_ | refine Run.skip ?_ | refine Run.block ?_)
  refine Run.region ?_
  refine O.lit hE 42 T33 rfl T5 rfl rfl rfl (xs := List.map (PV.int .u8) []) rfl rfl rfl rfl rfl ?_
  refine O.move rfl rfl ?_
  refine O.appI (q := []) (r := b) hE T33 rfl T5 rfl rfl rfl rfl rfl newest_pv rfl rfl rfl rfl (by simp; omega) (by simp [maxLen]; omega) rfl ?_
  refine O.litV hE T33 rfl T5 rfl rfl (xs := List.map (PV.int .u8) [7]) rfl rfl rfl rfl rfl ?_
  refine O.appI (q := [] ++ b) (r := [7]) hE T33 rfl T5 rfl rfl rfl rfl rfl newest_pv rfl rfl rfl rfl (by simp; omega) (by simp [maxLen]; omega) rfl ?_
  refine O.move rfl rfl ?_
  refine O.lenN hE T53 rfl rfl rfl newest_pv hlm rfl ?_
  refine O.move rfl rfl ?_
  refine O.callF c5 (.cons (AVle.lst _ _ _ (lstOf_glV rfl (by simp))) (.cons (AVle.of_eq rfl) (.cons (AVle.of_eq rfl) .nil))) rfl rfl rfl ?_
  refine O.move rfl rfl ?_
  refine O.extract rfl rfl rfl ?_
  refine O.extract rfl rfl rfl ?_
  refine O.assign rfl rfl ?_
  refine O.assign rfl rfl ?_
  refine O.nil ?_
  try refine Run.keep [0, 1, 2, 6, 7, 8, 9, 10, 12, 14] rfl rfl ?_
  rcases hfx with rfl | ⟨hbn, rfl⟩
  ·
    repeat (first | refine Run.seq ?_ | refine Run.skip ?_ | refine Run.block ?_)
    refine Run.region ?_
    refine O.callE c6 rfl (by first | rfl | simp [closed, men3, mens2_app, mens2_ints, mens2, men2, men1, mens1_app, mens1_ints, mens1]) (by first | rfl | simp [d2, ds1_ints, ds1_app, ds1, d1, ds0_app, ds0_ints, ds0, d0]) rfl ?_
    refine O.move rfl rfl ?_
    first | (refine O.yes rfl rfl (by first | rfl | assumption) ?_; refine O.move rfl rfl ?_) | refine O.no rfl rfl rfl rfl ?_
    first | (refine O.yes rfl rfl (by first | rfl | assumption) ?_; first | refine O.cmp rfl rfl rfl (by first | exact decide_eq_true (by omega) | exact decide_eq_false (by omega)) rfl ?_ | refine O.cmp rfl rfl rfl rfl rfl ?_) | refine O.no rfl rfl rfl rfl ?_
    refine O.pick rfl rfl rfl rfl rfl ?_
    refine O.move rfl rfl ?_
    first | (refine O.yes rfl rfl (by first | rfl | assumption) ?_; refine O.move rfl rfl ?_) | refine O.no rfl rfl rfl rfl ?_
    first | (refine O.yes rfl rfl (by first | rfl | assumption) ?_; first | refine O.cmp rfl rfl rfl (by first | exact decide_eq_true (by omega) | exact decide_eq_false (by omega)) rfl ?_ | refine O.cmp rfl rfl rfl rfl rfl ?_) | refine O.no rfl rfl rfl rfl ?_
    refine O.pick rfl rfl rfl rfl rfl ?_
    refine O.move rfl rfl ?_
    first | (refine O.yes rfl rfl (by first | rfl | assumption) ?_; refine O.move rfl rfl ?_) | refine O.no rfl rfl rfl rfl ?_
    first | (refine O.yes rfl rfl (by first | rfl | assumption) ?_; first | refine O.lenN hE T33 rfl rfl rfl (by first | exact newest_pv | exact newest_gl rfl rfl | trivial) lenC rfl ?_ | refine O.lenLst hE T33 rfl rfl rfl (by first | exact newest_pv | exact newest_gl rfl rfl | trivial) rfl ?_) | refine O.no rfl rfl rfl rfl ?_
    first | (refine O.yes rfl rfl (by first | rfl | assumption) ?_; first | refine O.cmp rfl rfl rfl (by first | exact decide_eq_true (by omega) | exact decide_eq_false (by omega)) rfl ?_ | refine O.cmp rfl rfl rfl rfl rfl ?_) | refine O.no rfl rfl rfl rfl ?_
    first | (refine O.yes rfl rfl (by first | rfl | assumption) ?_; refine O.move rfl rfl ?_) | refine O.no rfl rfl rfl rfl ?_
    first | (refine O.yes rfl rfl (by first | rfl | assumption) ?_; refine O.move rfl rfl ?_) | refine O.no rfl rfl rfl rfl ?_
    first | (refine O.yes rfl rfl (by first | rfl | assumption) ?_; first | refine O.cmp rfl rfl rfl (by first | exact decide_eq_true (by omega) | exact decide_eq_false (by omega)) rfl ?_ | refine O.cmp rfl rfl rfl rfl rfl ?_) | refine O.no rfl rfl rfl rfl ?_
    first | (refine O.yes rfl rfl (by first | rfl | assumption) ?_; refine O.pick rfl rfl rfl rfl rfl ?_) | refine O.no rfl rfl rfl rfl ?_
    refine O.pick rfl rfl rfl rfl rfl ?_
    refine O.assign rfl rfl ?_
    refine O.nil ?_
    try refine Run.keep [0, 1, 2, 6, 7, 8, 9, 10, 12, 14] rfl rfl ?_
    (repeat (first | refine Run.seq ?_ | refine Run.skip ?_)); (try refine Run.ret ?_); first | exact Ends.flat hE (.inr rfl) rfl rfl (AVle.of_eq rfl) rfl | exact Ends.flat hE (.inl rfl) rfl rfl (AVle.of_eq rfl) rfl
  ·
    have hz : (b.length : Int) ≠ 0 := by
      intro h
      exact hbn (List.length_eq_zero_iff.1 (by omega))
    repeat (first | refine Run.seq ?_ | refine Run.skip ?_ | refine Run.block ?_)
    refine Run.region ?_
    refine O.callE c6 rfl (by first | rfl | simp [closed, men3, mens2_app, mens2_ints, mens2, men2, men1, mens1_app, mens1_ints, mens1]) (by first | rfl | simp [d2, ds1_ints, ds1_app, ds1, d1, ds0_app, ds0_ints, ds0, d0]) rfl ?_
    refine O.move rfl rfl ?_
    first | (refine O.yes rfl rfl (by first | rfl | assumption) ?_; refine O.move rfl rfl ?_) | refine O.no rfl rfl rfl rfl ?_
    first | (refine O.yes rfl rfl (by first | rfl | assumption) ?_; first | refine O.cmp rfl rfl rfl (by first | exact decide_eq_true (by omega) | exact decide_eq_false (by omega)) rfl ?_ | refine O.cmp rfl rfl rfl rfl rfl ?_) | refine O.no rfl rfl rfl rfl ?_
    refine O.pick rfl rfl rfl rfl rfl ?_
    refine O.move rfl rfl ?_
    first | (refine O.yes rfl rfl (by first | rfl | assumption) ?_; refine O.move rfl rfl ?_) | refine O.no rfl rfl rfl rfl ?_
    first | (refine O.yes rfl rfl (by first | rfl | assumption) ?_; first | refine O.cmp rfl rfl rfl (by first | exact decide_eq_true (by omega) | exact decide_eq_false (by omega)) rfl ?_ | refine O.cmp rfl rfl rfl rfl rfl ?_) | refine O.no rfl rfl rfl rfl ?_
    refine O.pick rfl rfl rfl rfl rfl ?_
    refine O.move rfl rfl ?_
    first | (refine O.yes rfl rfl (by first | rfl | assumption) ?_; refine O.move rfl rfl ?_) | refine O.no rfl rfl rfl rfl ?_
    first | (refine O.yes rfl rfl (by first | rfl | assumption) ?_; refine O.lenN hE T33 rfl rfl rfl newest_pv hbl rfl ?_) | refine O.no rfl rfl rfl rfl ?_
    first | (refine O.yes rfl rfl (by first | rfl | assumption) ?_; refine O.cmp (c' := false) rfl rfl rfl (by simpa using hz) rfl ?_) | refine O.no rfl rfl rfl rfl ?_
    first | (refine O.yes rfl rfl (by first | rfl | assumption) ?_; refine O.move rfl rfl ?_) | refine O.no rfl rfl rfl rfl ?_
    first | (refine O.yes rfl rfl (by first | rfl | assumption) ?_; refine O.move rfl rfl ?_) | refine O.no rfl rfl rfl rfl ?_
    first | (refine O.yes rfl rfl (by first | rfl | assumption) ?_; first | refine O.cmp rfl rfl rfl (by first | exact decide_eq_true (by omega) | exact decide_eq_false (by omega)) rfl ?_ | refine O.cmp rfl rfl rfl rfl rfl ?_) | refine O.no rfl rfl rfl rfl ?_
    first | (refine O.yes rfl rfl (by first | rfl | assumption) ?_; refine O.pick rfl rfl rfl rfl rfl ?_) | refine O.no rfl rfl rfl rfl ?_
    refine O.pick rfl rfl rfl rfl rfl ?_
    refine O.assign rfl rfl ?_
    refine O.nil ?_
    try refine Run.keep [0, 1, 2, 6, 7, 8, 9, 10, 12, 14] rfl rfl ?_
    (repeat (first | refine Run.seq ?_ | refine Run.skip ?_)); (try refine Run.ret ?_); first | exact Ends.flat hE (.inr rfl) rfl rfl (AVle.of_eq rfl) rfl | exact Ends.flat hE (.inl rfl) rfl rfl (AVle.of_eq rfl) rfl
end Go.Proofs.YtokjeodlcilfpaaDoor.Vm
