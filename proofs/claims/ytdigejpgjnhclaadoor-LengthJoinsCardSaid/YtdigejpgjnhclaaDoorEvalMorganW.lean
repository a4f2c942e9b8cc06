/- EvalMorgan: its walk. Conditions: none beyond the tables of utf8. -/
import Derived.Test.YtdigejpgjnhclaaDoorEvalShortW
namespace Go.Proofs.YtdigejpgjnhclaaDoor.Vm
open Go Go.RowKit Go.Lib
set_option linter.unusedVariables false
set_option linter.unusedSimpArgs false
attribute [local irreducible] Ops Dr Run
theorem log_cases {v : Vl} (h : Log v) : v = v0 ∨ v = vB false ∨ v = vB true := by
  rcases h with rfl | ⟨n, hn, rfl⟩
  · exact .inl rfl
  · rcases hn with rfl | rfl
    · exact .inr (.inl rfl)
    · exact .inr (.inr rfl)
theorem s15F : short 15 (vB false) = true := by unfold short; rw [show sameV (vB false) (tru 0) = true from sameV_iff.2 rfl]; rfl
theorem s15T : short 15 (vB true) = false := by unfold short; rw [sameV_ne (show vB true ≠ tru 0 by unfold vB tru; simp)]; rfl
theorem s15N : short 15 v0 = false := by unfold short; rw [sameV_ne (show v0 ≠ tru 0 by unfold v0 tru; simp)]; rfl
theorem s16F : short 16 (vB false) = false := by unfold short; rw [sameV_ne (show vB false ≠ tru 2 by unfold vB tru; simp)]; rfl
theorem s16T : short 16 (vB true) = true := by unfold short; rw [show sameV (vB true) (tru 2) = true from sameV_iff.2 rfl]; rfl
theorem s16N : short 16 v0 = false := by unfold short; rw [sameV_ne (show v0 ≠ tru 2 by unfold v0 tru; simp)]; rfl
theorem o4F : one1 4 (vB false) = (vB true, 0) := rfl
theorem o4T : one1 4 (vB true) = (vB false, 0) := rfl
theorem o4N : one1 4 v0 = (v0, 0) := rfl
theorem morgan_val {cs : List Kol} {row : List Vl} {x y : Xp} {vx vy : Vl} {ex ey : Int} (h1 : valP cs row x = (vx, ex)) (h2 : valP cs row y = (vy, ey)) (hx : ex ≠ 0 ∨ (ex = 0 ∧ Log vx)) (hy : ey ≠ 0 ∨ (ey = 0 ∧ Log vy)) :
    valP cs row (.un 4 (.bi 15 x y)) = valP cs row (.bi 16 (.un 4 x) (.un 4 y)) := by
  simp only [valP, h1, h2]
  rcases hx with hx | ⟨rfl, hx⟩
  · simp only [if_neg hx]
  rcases log_cases hx with rfl | rfl | rfl
  · simp only [if_true, s15N, s16N, o4N, Bool.false_eq_true, if_false]
    rcases hy with hy | ⟨rfl, hy⟩
    · simp only [if_neg hy]
    · rcases log_cases hy with rfl | rfl | rfl <;> rfl
  · simp only [if_true, s15F, s16T, o4F]
  · simp only [if_true, s15T, s16F, o4T, Bool.false_eq_true, if_false]
    rcases hy with hy | ⟨rfl, hy⟩
    · simp only [if_neg hy]
    · rcases log_cases hy with rfl | rfl | rfl <;> rfl
theorem res_log {r : Vl × Int} (h : ResOk 1 r) : r.2 ≠ 0 ∨ (r.2 = 0 ∧ Log r.1) := by
  rcases h with ⟨h1, h2, h3⟩ | ⟨h1, h2⟩
  · exact .inr ⟨h1, good_log h2 h3⟩
  · left; omega
set_option maxHeartbeats 4000000 in
theorem fnEvalMorgan {rs : List Rw} {key : Int} (hl : (rs.length : Int) ≤ 9223372036854775807) (hr : ∀ r ∈ rs, RwOk r) (hkey : inR key) : FnC (En Tryd.prog gT) 9 [.pv (.lst 4 (rs.map rawE)), .pv (.int .i64 key)] (.pv (.bool true)) [] := by
  have hE := EnOk gT
  have c1 := fnHeapOf (g := gT) hl
  rw [show colsP (rs.take ((rs.length : Int) % 4).toNat) = colsH rs from rfl] at c1
  have hcs : ColsOk (colsH rs) := colsP_ok _
  have hR : (rs.take 40).length ≤ 40 := by rw [List.length_take]; omega
  have hR2 : ∀ r ∈ rs.take 40, RwOk r := fun r h => hr r (List.mem_of_mem_take h)
  have h8 : ((2 ^ 3 : Nat) : Int) = 8 := rfl
  obtain ⟨x, m', ⟨m0, m1, hty, hdp⟩, c2⟩ := expr_ex (g := gT) hR hR2 hcs 3 3 (by omega) (by omega) (by omega) 1 (by omega) (by omega) 0 (by omega) (by decide)
  obtain ⟨y, m2, ⟨m20, m21, hty2, hdp2⟩, c4⟩ := expr_ex (g := gT) hR hR2 hcs 3 3 (by omega) (by omega) (by omega) 1 (by omega) (by omega) m' (by omega) (by omega)
  obtain ⟨row, k', ⟨k0, k1, hrow⟩, c3⟩ := fnHeapRow (g := gT) hR hR2 hcs (colsH_k0 rs) (k := m2) ⟨by omega, by omega⟩ hkey
  have hsz := dp_sz hdp
  have hsz2 := dp_sz hdp2
  have ct := fnEvalTells
  have t1 : Ty (colsH rs) 1 (.bi 15 x y) := .bi (by unfold BiTy; omega) hty hty2
  have t2 : Ty (colsH rs) 1 (.un 4 (.bi 15 x y)) := .un (by unfold UnTy; omega) t1
  have t3 : Ty (colsH rs) 1 (.un 4 x) := .un (by unfold UnTy; omega) hty
  have t4 : Ty (colsH rs) 1 (.un 4 y) := .un (by unfold UnTy; omega) hty2
  have t5 : Ty (colsH rs) 1 (.bi 16 (.un 4 x) (.un 4 y)) := .bi (by unfold BiTy; omega) t3 t4
  have e1 := fnEval vstr hcs hrow t2 (by simp only [Xp.dp]; omega) (by simp only [Xp.sz]; omega)
  have e2 := fnEval vstr hcs hrow t5 (by simp only [Xp.dp]; omega) (by simp only [Xp.sz]; omega)
  have hv := morgan_val (x := x) (y := y) (cs := colsH rs) (row := row) rfl rfl (res_log (val_ok hrow hty)) (res_log (val_ok hrow hty2))
  rw [hv] at e1
  have f1 := fnOp2 (g := gT) (op := 15) x y
  have f2 := fnOp1 (g := gT) (op := 4) (.bi 15 x y)
  have f3 := fnOp1 (g := gT) (op := 4) x
  have f4 := fnOp1 (g := gT) (op := 4) y
  have f5 := fnOp2 (g := gT) (op := 16) (.un 4 x) (.un 4 y)
  clear hv t1 t2 t3 t4 t5 hty hty2 hdp hdp2 hsz hsz2 hrow hcs
  generalize valP (colsH rs) row (.bi 16 (.un 4 x) (.un 4 y)) = r at *
  generalize (Xp.bi 16 (.un 4 x) (.un 4 y)) = z5 at *
  generalize (Xp.un 4 (.bi 15 x y)) = z2 at *
  generalize (Xp.bi 15 x y) = z1 at *
  generalize (Xp.un 4 x) = z3 at *
  generalize (Xp.un 4 y) = z4 at *
  generalize rs.take 40 = R at *
  generalize colsH rs = cs at *
  obtain ⟨⟨vk, vn, vb, vs⟩, e⟩ := r
  have s1 := sameV_iff.2 (rfl : (⟨vk, vn, vb, vs⟩ : Vl) = ⟨vk, vn, vb, vs⟩)
  dsimp only [vlA] at e1 e2 s1
  exact FnC.go hE mixed Tryd.func9 [(14, .fnb _ _ _ _ c1), (16, .ln _ _ _ _ _ _ c2), (18, .ln _ _ _ _ _ _ c4), (21, .ln _ _ _ _ _ _ c3), (25, .fn _ _ _ f1), (26, .fn _ _ _ f2), (32, .fn _ _ _ e1), (37, .fn _ _ _ f3), (39, .fn _ _ _ f4), (40, .fn _ _ _ f5), (46, .fn _ _ _ e2), (49, .fn _ _ _ ct), (53, .b true), (58, hEq _ { kd := vk, n := vn, b := vb, s := vs } { kd := vk, n := vn, b := vb, s := vs } true)]
end Go.Proofs.YtdigejpgjnhclaaDoor.Vm
