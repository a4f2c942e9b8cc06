/- EvalParts: its walk. Conditions: none beyond the tables of utf8. -/
import Derived.Test.YtdigejpgjnhclaaDoorEvalSumsW
namespace Go.Proofs.YtdigejpgjnhclaaDoor.Vm
open Go Go.RowKit Go.Lib
set_option linter.unusedVariables false
set_option linter.unusedSimpArgs false
attribute [local irreducible] Ops Dr Run
theorem cols0_ok : ColsOk [] := ⟨by simp, fun c hc => by simp at hc, by simp⟩
theorem row0_ok : RowOk [] [] := ⟨rfl, fun i c v hc => by simp at hc⟩
/-- One is one. -/
theorem fnEvalTells : FnC (En Tryd.prog gT) 21 [] (.pv (.bool true)) [] := by
  have hE := EnOk gT
  have e1 := fnEval vstr cols0_ok row0_ok (k := 2) (x := .lit (vN 1)) (.lit (.int 1 ⟨by omega, by omega⟩) (by decide) (.inl rfl)) (by decide) (by decide)
  have n1 := fnNumX (g := gT) (n := 1)
  rw [show valP [] [] (.lit (vN 1)) = (vN 1, 0) from rfl] at e1
  have s1 := sameV_iff.2 (rfl : vN 1 = vN 1)
  generalize (Xp.lit (vN 1)) = x at *
  dsimp only [vlA, vN, List.map_nil] at e1 n1 s1
  exact FnC.go hE mixed Tryd.func21 [(4, .fn _ _ _ n1), (5, .fn _ _ _ e1), (9, .b true), (13, hEq _ { kd := 2, n := 1, b := 0, s := noS } { kd := 2, n := 1, b := 0, s := noS } true)]
theorem val_err2 {cs : List Kol} {row : List Vl} {o e : Int} (h14 : o ≤ 14) {x y : Xp} {a v : Vl} (hx : valP cs row x = (a, 0)) (hy : valP cs row y = (v, e)) (he : e ≠ 0) : valP cs row (.bi o x y) = (v0, e) := by
  simp only [valP, hx, hy, short_lo (o := o) h14, if_true, Bool.false_eq_true, if_false, if_neg he]
theorem tmod_facts {a b : Int} (ha : inR a) (hb : inR b) (hb0 : b ≠ 0) : inR (a.tdiv b * b) ∧ a - a.tdiv b * b = a.tmod b ∧ inR (a.tmod b) ∧ (a.tmod b = 0 ∨ ((a.tmod b < 0) = (a < 0))) ∧ ((b < 0 ∧ b < a.tmod b ∧ a.tmod b < -b) ∨ (0 < b ∧ a.tmod b < b ∧ -b < a.tmod b)) := by
  have h1 := Int.mul_tdiv_add_tmod a b
  rw [Int.mul_comm] at h1
  have h2 : (a.tmod b).natAbs < b.natAbs := by
    rw [Int.natAbs_tmod]
    exact Nat.mod_lt _ (by omega)
  have h3 : (a.tmod b).natAbs ≤ a.natAbs := by
    rw [Int.natAbs_tmod]
    exact Nat.mod_le _ _
  have h4 : 0 ≤ a → 0 ≤ a.tmod b := fun h => Int.tmod_nonneg b h
  have h5 : a ≤ 0 → a.tmod b ≤ 0 := fun h => by
    have := Int.tmod_nonneg (a := -a) b (by omega)
    rw [Int.neg_tmod] at this
    omega
  unfold inR at *
  generalize a.tdiv b * b = q at *
  generalize a.tmod b = r at *
  refine ⟨by omega, by omega, by omega, ?_, by omega⟩
  by_cases hr : r = 0
  · exact .inl hr
  · right
    apply propext
    constructor <;> intro h <;> omega
set_option maxHeartbeats 4000000 in
theorem fnEvalParts {a b : Int} (ha : inR a) (hb : inR b) : FnC (En Tryd.prog gT) 6 [.pv (.int .i64 a), .pv (.int .i64 b)] (.pv (.bool true)) [] := by
  have hE := EnOk gT
  have hr := rowAB_ok ha hb
  have tQ : Ty [kA, kB] 2 (.bi 8 (.col (nmOf 97)) (.col (nmOf 98))) := .bi (.inl ⟨by omega, by omega, rfl, rfl⟩) tyA tyB
  have tM : Ty [kA, kB] 2 (.bi 7 (.bi 8 (.col (nmOf 97)) (.col (nmOf 98))) (.col (nmOf 98))) := .bi (.inl ⟨by omega, by omega, rfl, rfl⟩) tQ tyB
  have tS : Ty [kA, kB] 2 (.bi 6 (.col (nmOf 97)) (.bi 7 (.bi 8 (.col (nmOf 97)) (.col (nmOf 98))) (.col (nmOf 98)))) := .bi (.inl ⟨by omega, by omega, rfl, rfl⟩) tyA tM
  have e1 := fnEval vstr colsAB_ok hr tS (by decide) (by decide)
  have vQ := val_num (o := 8) (by omega) (by omega) (valA a b) (valB a b)
  have ct := fnEvalTells
  have ci := fnInts (g := gT) (a := a) (b := b)
  have ca := fnColA (g := gT)
  have cb := fnColB (g := gT)
  have o1 := fnOp2 (g := gT) (op := 8) (.col (nmOf 97)) (.col (nmOf 98))
  have o2 := fnOp2 (g := gT) (op := 7) (.bi 8 (.col (nmOf 97)) (.col (nmOf 98))) (.col (nmOf 98))
  have o3 := fnOp2 (g := gT) (op := 6) (.col (nmOf 97)) (.bi 7 (.bi 8 (.col (nmOf 97)) (.col (nmOf 98))) (.col (nmOf 98)))
  by_cases hb0 : b = 0
  ·
    have r8 : reck 8 a b = (v0, 7) := by unfold reck; rw [if_neg (by omega), if_neg (by omega), if_neg (by omega), if_pos hb0]
    rw [r8] at vQ
    have vM := val_err (o := 7) (y := .col (nmOf 98)) vQ (by omega)
    have vS := val_err2 (o := 6) (by omega) (valA a b) vM (by omega)
    rw [vS] at e1
    clear tQ tM tS hr vQ vM vS r8
    generalize (Xp.bi 6 (.col (nmOf 97)) (.bi 7 (.bi 8 (.col (nmOf 97)) (.col (nmOf 98))) (.col (nmOf 98)))) = xS at *
    generalize (Xp.bi 7 (.bi 8 (.col (nmOf 97)) (.col (nmOf 98))) (.col (nmOf 98))) = xM at *
    generalize (Xp.bi 8 (.col (nmOf 97)) (.col (nmOf 98))) = xQ at *
    dsimp only [vlA] at e1
    exact FnC.go hE mixed Tryd.func6 [(14, .fn _ _ _ ci), (17, .fn _ _ _ ca), (18, .fn _ _ _ cb), (19, .fn _ _ _ o1), (21, .fn _ _ _ ca), (23, .fn _ _ _ cb), (24, .fn _ _ _ o2), (25, .fn _ _ _ o3), (28, .fn _ _ _ e1), (32, .b true), (34, .b true)]
  by_cases hx : a = -9223372036854775808 ∧ b = -1
  ·
    have hn : ¬ inR (a.tdiv b) := by obtain ⟨rfl, rfl⟩ := hx; unfold inR; decide
    have r8 : reck 8 a b = (v0, 6) := by unfold reck; rw [if_neg (by omega), if_neg (by omega), if_neg (by omega), if_neg hb0, if_neg hn]
    rw [r8] at vQ
    have vM := val_err (o := 7) (y := .col (nmOf 98)) vQ (by omega)
    have vS := val_err2 (o := 6) (by omega) (valA a b) vM (by omega)
    rw [vS] at e1
    clear tQ tM tS hr vQ vM vS r8 hn
    obtain ⟨rfl, rfl⟩ := hx
    generalize (Xp.bi 6 (.col (nmOf 97)) (.bi 7 (.bi 8 (.col (nmOf 97)) (.col (nmOf 98))) (.col (nmOf 98)))) = xS at *
    generalize (Xp.bi 7 (.bi 8 (.col (nmOf 97)) (.col (nmOf 98))) (.col (nmOf 98))) = xM at *
    generalize (Xp.bi 8 (.col (nmOf 97)) (.col (nmOf 98))) = xQ at *
    dsimp only [vlA] at e1
    exact FnC.go hE mixed Tryd.func6 [(14, .fn _ _ _ ci), (17, .fn _ _ _ ca), (18, .fn _ _ _ cb), (19, .fn _ _ _ o1), (21, .fn _ _ _ ca), (23, .fn _ _ _ cb), (24, .fn _ _ _ o2), (25, .fn _ _ _ o3), (28, .fn _ _ _ e1), (32, .b false), (36, .b true), (39, .b true), (42, .b true)]
  have hq := tdiv_in ha hb0 hx
  obtain ⟨hm, he, hrr, hs, hlt⟩ := tmod_facts ha hb hb0
  have r8 : reck 8 a b = (vN (a.tdiv b), 0) := by unfold reck; rw [if_neg (by omega), if_neg (by omega), if_neg (by omega), if_neg hb0, if_pos hq]
  rw [r8] at vQ
  have vM := val_num (o := 7) (by omega) (by omega) vQ (valB a b)
  have r7 : reck 7 (a.tdiv b) b = (vN (a.tdiv b * b), 0) := by unfold reck; rw [if_neg (by omega), if_neg (by omega), if_pos rfl, if_pos hm]
  rw [r7] at vM
  have vS := val_num (o := 6) (by omega) (by omega) (valA a b) vM
  have r6 : reck 6 a (a.tdiv b * b) = (vN (a.tmod b), 0) := by unfold reck; rw [if_neg (by omega), if_pos rfl, he, if_pos hrr]
  rw [r6] at vS
  rw [vS] at e1
  clear tQ tM tS hr vQ vM vS r8 r7 r6 hq hm he
  generalize (Xp.bi 6 (.col (nmOf 97)) (.bi 7 (.bi 8 (.col (nmOf 97)) (.col (nmOf 98))) (.col (nmOf 98)))) = xS at *
  generalize (Xp.bi 7 (.bi 8 (.col (nmOf 97)) (.col (nmOf 98))) (.col (nmOf 98))) = xM at *
  generalize (Xp.bi 8 (.col (nmOf 97)) (.col (nmOf 98))) = xQ at *
  generalize a.tmod b = r at *
  unfold inR at ha hb hrr
  dsimp only [vlA, vN] at e1
  have hrc : r = 0 ∨ (r < 0 ∧ a < 0) ∨ (0 < r ∧ 0 ≤ a) := by
    by_cases h0 : r = 0
    · exact .inl h0
    · rcases hs with h | h
      · exact absurd h h0
      · by_cases h1 : r < 0
        · exact .inr (.inl ⟨h1, by rw [← h]; exact h1⟩)
        · refine .inr (.inr ⟨by omega, ?_⟩)
          have : ¬ a < 0 := by rw [← h]; exact h1
          omega
  have hbc : b = -9223372036854775808 ∨ (-9223372036854775808 < b ∧ b < 0) ∨ 0 < b := by omega
  have hw : IntKind.i64.wrap (0 - (-9223372036854775808)) = -9223372036854775808 := by rw [IntKind.wrap_i64]; decide
  clear hs
  rcases hrc with rfl | ⟨h1, h2⟩ | ⟨h1, h2⟩
  · rcases hbc with rfl | ⟨h3, h4⟩ | h3
    · by_cases h5 : a = -9223372036854775808
      · exact FnC.go hE mixed Tryd.func6 [(14, .fn _ _ _ ci), (17, .fn _ _ _ ca), (18, .fn _ _ _ cb), (19, .fn _ _ _ o1), (21, .fn _ _ _ ca), (23, .fn _ _ _ cb), (24, .fn _ _ _ o2), (25, .fn _ _ _ o3), (28, .fn _ _ _ e1), (32, .b false), (36, .b true), (39, .b false), (45, .fn _ _ _ ct), (48, .b true), (53, .b true), (57, .b true), (68, .b true), (72, .b true), (77, .w (-9223372036854775808)), (78, .b false), (82, .b false), (97, .b true)]
      · exact FnC.go hE mixed Tryd.func6 [(14, .fn _ _ _ ci), (17, .fn _ _ _ ca), (18, .fn _ _ _ cb), (19, .fn _ _ _ o1), (21, .fn _ _ _ ca), (23, .fn _ _ _ cb), (24, .fn _ _ _ o2), (25, .fn _ _ _ o3), (28, .fn _ _ _ e1), (32, .b false), (36, .b false), (45, .fn _ _ _ ct), (48, .b true), (53, .b true), (57, .b true), (68, .b true), (72, .b true), (77, .w (-9223372036854775808)), (78, .b false), (82, .b false), (97, .b true)]
    · by_cases h5 : a = -9223372036854775808
      · exact FnC.go hE mixed Tryd.func6 [(14, .fn _ _ _ ci), (17, .fn _ _ _ ca), (18, .fn _ _ _ cb), (19, .fn _ _ _ o1), (21, .fn _ _ _ ca), (23, .fn _ _ _ cb), (24, .fn _ _ _ o2), (25, .fn _ _ _ o3), (28, .fn _ _ _ e1), (32, .b false), (36, .b true), (39, .b false), (45, .fn _ _ _ ct), (48, .b true), (53, .b true), (57, .b true), (68, .b true), (72, .b true), (78, .b true)]
      · exact FnC.go hE mixed Tryd.func6 [(14, .fn _ _ _ ci), (17, .fn _ _ _ ca), (18, .fn _ _ _ cb), (19, .fn _ _ _ o1), (21, .fn _ _ _ ca), (23, .fn _ _ _ cb), (24, .fn _ _ _ o2), (25, .fn _ _ _ o3), (28, .fn _ _ _ e1), (32, .b false), (36, .b false), (45, .fn _ _ _ ct), (48, .b true), (53, .b true), (57, .b true), (68, .b true), (72, .b true), (78, .b true)]
    · by_cases h5 : a = -9223372036854775808
      · exact FnC.go hE mixed Tryd.func6 [(14, .fn _ _ _ ci), (17, .fn _ _ _ ca), (18, .fn _ _ _ cb), (19, .fn _ _ _ o1), (21, .fn _ _ _ ca), (23, .fn _ _ _ cb), (24, .fn _ _ _ o2), (25, .fn _ _ _ o3), (28, .fn _ _ _ e1), (32, .b false), (36, .b true), (39, .b false), (45, .fn _ _ _ ct), (48, .b true), (53, .b true), (57, .b true), (68, .b false), (82, .b true), (86, .b true), (92, .b true)]
      · exact FnC.go hE mixed Tryd.func6 [(14, .fn _ _ _ ci), (17, .fn _ _ _ ca), (18, .fn _ _ _ cb), (19, .fn _ _ _ o1), (21, .fn _ _ _ ca), (23, .fn _ _ _ cb), (24, .fn _ _ _ o2), (25, .fn _ _ _ o3), (28, .fn _ _ _ e1), (32, .b false), (36, .b false), (45, .fn _ _ _ ct), (48, .b true), (53, .b true), (57, .b true), (68, .b false), (82, .b true), (86, .b true), (92, .b true)]
  · rcases hbc with rfl | ⟨h3, h4⟩ | h3
    · by_cases h5 : a = -9223372036854775808
      · exact FnC.go hE mixed Tryd.func6 [(14, .fn _ _ _ ci), (17, .fn _ _ _ ca), (18, .fn _ _ _ cb), (19, .fn _ _ _ o1), (21, .fn _ _ _ ca), (23, .fn _ _ _ cb), (24, .fn _ _ _ o2), (25, .fn _ _ _ o3), (28, .fn _ _ _ e1), (32, .b false), (36, .b true), (39, .b false), (45, .fn _ _ _ ct), (48, .b true), (53, .b true), (57, .b false), (60, .b true), (62, .b true), (63, .b true), (68, .b true), (72, .b true), (77, .w (-9223372036854775808)), (78, .b false), (82, .b false), (97, .b true)]
      · exact FnC.go hE mixed Tryd.func6 [(14, .fn _ _ _ ci), (17, .fn _ _ _ ca), (18, .fn _ _ _ cb), (19, .fn _ _ _ o1), (21, .fn _ _ _ ca), (23, .fn _ _ _ cb), (24, .fn _ _ _ o2), (25, .fn _ _ _ o3), (28, .fn _ _ _ e1), (32, .b false), (36, .b false), (45, .fn _ _ _ ct), (48, .b true), (53, .b true), (57, .b false), (60, .b true), (62, .b true), (63, .b true), (68, .b true), (72, .b true), (77, .w (-9223372036854775808)), (78, .b false), (82, .b false), (97, .b true)]
    · by_cases h5 : a = -9223372036854775808
      · exact FnC.go hE mixed Tryd.func6 [(14, .fn _ _ _ ci), (17, .fn _ _ _ ca), (18, .fn _ _ _ cb), (19, .fn _ _ _ o1), (21, .fn _ _ _ ca), (23, .fn _ _ _ cb), (24, .fn _ _ _ o2), (25, .fn _ _ _ o3), (28, .fn _ _ _ e1), (32, .b false), (36, .b true), (39, .b false), (45, .fn _ _ _ ct), (48, .b true), (53, .b true), (57, .b false), (60, .b true), (62, .b true), (63, .b true), (68, .b true), (72, .b true), (78, .b true)]
      · exact FnC.go hE mixed Tryd.func6 [(14, .fn _ _ _ ci), (17, .fn _ _ _ ca), (18, .fn _ _ _ cb), (19, .fn _ _ _ o1), (21, .fn _ _ _ ca), (23, .fn _ _ _ cb), (24, .fn _ _ _ o2), (25, .fn _ _ _ o3), (28, .fn _ _ _ e1), (32, .b false), (36, .b false), (45, .fn _ _ _ ct), (48, .b true), (53, .b true), (57, .b false), (60, .b true), (62, .b true), (63, .b true), (68, .b true), (72, .b true), (78, .b true)]
    · by_cases h5 : a = -9223372036854775808
      · exact FnC.go hE mixed Tryd.func6 [(14, .fn _ _ _ ci), (17, .fn _ _ _ ca), (18, .fn _ _ _ cb), (19, .fn _ _ _ o1), (21, .fn _ _ _ ca), (23, .fn _ _ _ cb), (24, .fn _ _ _ o2), (25, .fn _ _ _ o3), (28, .fn _ _ _ e1), (32, .b false), (36, .b true), (39, .b false), (45, .fn _ _ _ ct), (48, .b true), (53, .b true), (57, .b false), (60, .b true), (62, .b true), (63, .b true), (68, .b false), (82, .b true), (86, .b true), (92, .b true)]
      · exact FnC.go hE mixed Tryd.func6 [(14, .fn _ _ _ ci), (17, .fn _ _ _ ca), (18, .fn _ _ _ cb), (19, .fn _ _ _ o1), (21, .fn _ _ _ ca), (23, .fn _ _ _ cb), (24, .fn _ _ _ o2), (25, .fn _ _ _ o3), (28, .fn _ _ _ e1), (32, .b false), (36, .b false), (45, .fn _ _ _ ct), (48, .b true), (53, .b true), (57, .b false), (60, .b true), (62, .b true), (63, .b true), (68, .b false), (82, .b true), (86, .b true), (92, .b true)]
  · rcases hbc with rfl | ⟨h3, h4⟩ | h3
    · exact FnC.go hE mixed Tryd.func6 [(14, .fn _ _ _ ci), (17, .fn _ _ _ ca), (18, .fn _ _ _ cb), (19, .fn _ _ _ o1), (21, .fn _ _ _ ca), (23, .fn _ _ _ cb), (24, .fn _ _ _ o2), (25, .fn _ _ _ o3), (28, .fn _ _ _ e1), (32, .b false), (36, .b false), (45, .fn _ _ _ ct), (48, .b true), (53, .b true), (57, .b false), (60, .b false), (62, .b false), (63, .b true), (68, .b true), (72, .b true), (77, .w (-9223372036854775808)), (78, .b false), (82, .b false), (97, .b true)]
    · exact FnC.go hE mixed Tryd.func6 [(14, .fn _ _ _ ci), (17, .fn _ _ _ ca), (18, .fn _ _ _ cb), (19, .fn _ _ _ o1), (21, .fn _ _ _ ca), (23, .fn _ _ _ cb), (24, .fn _ _ _ o2), (25, .fn _ _ _ o3), (28, .fn _ _ _ e1), (32, .b false), (36, .b false), (45, .fn _ _ _ ct), (48, .b true), (53, .b true), (57, .b false), (60, .b false), (62, .b false), (63, .b true), (68, .b true), (72, .b true), (78, .b true)]
    · exact FnC.go hE mixed Tryd.func6 [(14, .fn _ _ _ ci), (17, .fn _ _ _ ca), (18, .fn _ _ _ cb), (19, .fn _ _ _ o1), (21, .fn _ _ _ ca), (23, .fn _ _ _ cb), (24, .fn _ _ _ o2), (25, .fn _ _ _ o3), (28, .fn _ _ _ e1), (32, .b false), (36, .b false), (45, .fn _ _ _ ct), (48, .b true), (53, .b true), (57, .b false), (60, .b false), (62, .b false), (63, .b true), (68, .b false), (82, .b true), (86, .b true), (92, .b true)]
end Go.Proofs.YtdigejpgjnhclaaDoor.Vm
