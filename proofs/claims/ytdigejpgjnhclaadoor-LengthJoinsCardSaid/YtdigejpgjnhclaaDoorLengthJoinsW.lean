/- LengthJoins: its walk. Conditions: none beyond the tables of utf8. -/
import Derived.Test.YtdigejpgjnhclaaDoorEvalMorganW
import Derived.Lib.TrimUEq
namespace Go.Proofs.YtdigejpgjnhclaaDoor.Vm
open Go Go.RowKit Go.Lib
set_option linter.unusedVariables false
set_option linter.unusedSimpArgs false
attribute [local irreducible] Ops Dr Run
theorem runeFrom_whole (s : ByteArray) : ∀ (us : List (List UInt8)) (fuel pos : Nat), s.data.toList.drop pos = us.flatten → (∀ q ∈ us, Whole q) → us.flatten.length ≤ fuel → runeCountFrom s fuel pos = us.length
  | [], fuel, pos, h, _, _ => by
    have hp : ¬ pos < s.size := by
      have := congrArg List.length h
      simp at this
      have h2 : s.data.size = s.size := rfl
      omega
    rw [runeCountFrom_end s fuel pos hp]; rfl
  | q :: us, fuel, pos, h, hw, hf => by
    obtain ⟨hne, hq⟩ := hw q (by simp)
    have hql : 1 ≤ q.length := by
      cases q with
      | nil => exact absurd rfl hne
      | cons a q => simp
    rw [List.flatten_cons, List.length_append] at hf
    have hp : pos < s.size := by
      have := congrArg List.length h
      rw [List.flatten_cons, List.length_append, List.length_drop] at this
      have h2 : s.data.toList.length = s.size := by simp
      omega
    have hd : (Utf8.decode s pos).2 = q.length := by
      have := (hq us.flatten).1
      rw [← List.flatten_cons, ← h] at this
      rw [decodeL_drop] at this
      exact this
    cases fuel with
    | zero => omega
    | succ fuel =>
      rw [runeCountFrom, if_pos hp, hd, runeFrom_whole s us fuel (pos + q.length) ?_ (fun x hx => hw x (by simp [hx])) (by omega)]
      · rw [List.length_cons]; omega
      · rw [← List.drop_drop, h, List.flatten_cons, List.drop_left]
theorem rune_runes {s : ByteArray} {us : List (List UInt8)} (h : s.data.toList = us.flatten) (hw : ∀ q ∈ us, Whole q) : runeCount s = us.length := by
  unfold runeCount
  refine runeFrom_whole s us s.size 0 (by simpa using h) hw ?_
  rw [← h]
  simp
theorem rune_app {s t : ByteArray} (hs : Runes s) (ht : Runes t) : runeCount (s ++ t) = runeCount s + runeCount t := by
  obtain ⟨us, h1, h2⟩ := hs
  obtain ⟨vs, h3, h4⟩ := ht
  rw [rune_runes h1 h2, rune_runes h3 h4, rune_runes (us := us ++ vs) (by rw [ByteArray.data_append, Array.toList_append, h1, h3]; simp) (fun q hq => (List.mem_append.1 hq).elim (h2 q) (h4 q)), List.length_append]
theorem rune_pos {s : ByteArray} (h : 0 < s.size) : 0 < runeCount s := by
  unfold runeCount
  obtain ⟨n, hn⟩ : ∃ n, s.size = n + 1 := ⟨s.size - 1, by omega⟩
  rw [hn, runeCountFrom, if_pos h]
  omega
variable {g : Nat → Option (List PV)}
theorem fnLitS {s : ByteArray} : FnC (En Tryd.prog g) 29 [.pv (.str s)] (xA (.lit (vS s))) [] := by
  have hE := EnOk g
  exact FnC.go hE mixed Tryd.func29 []
set_option maxHeartbeats 4000000 in
theorem fnLengthJoins {a b : ByteArray} : FnC (En Tryd.prog gT) 10 [.pv (.str a), .pv (.str b)] (.pv (.bool true)) [] := by
  have hE := EnOk gT
  obtain ⟨s, ⟨hs1, hs2⟩, c1⟩ := clean_exR (g := gT) a (most := 20) (by omega) (by omega)
  obtain ⟨t, ⟨ht1, ht2⟩, c2⟩ := clean_exR (g := gT) b (most := 20) (by omega) (by omega)
  have hgs : Good (vS s) := .text s (by omega) hs2.valid
  have hgt : Good (vS t) := .text t (by omega) ht2.valid
  have ts : Ty [] 4 (.lit (vS s)) := .lit hgs (by unfold vS; simp) (.inl rfl)
  have tt : Ty [] 4 (.lit (vS t)) := .lit hgt (by unfold vS; simp) (.inl rfl)
  have tj : Ty [] 4 (.bi 19 (.lit (vS s)) (.lit (vS t))) := .bi (by unfold BiTy; omega) ts tt
  have tl : Ty [] 2 (.un 18 (.bi 19 (.lit (vS s)) (.lit (vS t)))) := .un (by unfold UnTy; omega) tj
  have tls : Ty [] 2 (.un 18 (.lit (vS s))) := .un (by unfold UnTy; omega) ts
  have tlt : Ty [] 2 (.un 18 (.lit (vS t))) := .un (by unfold UnTy; omega) tt
  have ta : Ty [] 2 (.bi 5 (.un 18 (.lit (vS s))) (.un 18 (.lit (vS t)))) := .bi (by unfold BiTy; omega) tls tlt
  have e1 := fnEval vstr cols0_ok row0_ok tl (by simp only [Xp.dp]; omega) (by simp only [Xp.sz]; omega)
  have e2 := fnEval vstr cols0_ok row0_ok ta (by simp only [Xp.dp]; omega) (by simp only [Xp.sz]; omega)
  have hle1 := runeCount_le s
  have hle2 := runeCount_le t
  have v1 : valP [] [] (.un 18 (.bi 19 (.lit (vS s)) (.lit (vS t)))) = (vN ((runeCount s + runeCount t : Nat)), 0) := by
    have hsh : short 19 (vS s) = false := by unfold short; simp
    have hj : two2 19 (vS s) (vS t) = (vS (s ++ t), 0) := by
      have : two2 19 (vS s) (vS t) = if (vS s).kd = 0 ∨ (vS t).kd = 0 then (v0, 0) else joinP s t := rfl
      rw [this, if_neg (by simp [vS])]
      unfold joinP
      rw [if_neg (by omega)]
    simp only [valP, hsh, hj, if_true, Bool.false_eq_true, if_false]
    rw [← rune_app hs2 ht2]
    rfl
  have v2 : valP [] [] (.bi 5 (.un 18 (.lit (vS s))) (.un 18 (.lit (vS t)))) = (vN ((runeCount s + runeCount t : Nat)), 0) := by
    rw [val_num (o := 5) (by omega) (by omega) (a := runeCount s) (b := runeCount t) rfl rfl]
    unfold reck
    rw [if_pos rfl, if_pos (by unfold inR; omega)]
    congr 2
  rw [v1] at e1
  rw [v2] at e2
  have l1 := fnLitS (g := gT) (s := s)
  have l2 := fnLitS (g := gT) (s := t)
  have o1 := fnOp2 (g := gT) (op := 19) (.lit (vS s)) (.lit (vS t))
  have o2 := fnOp1 (g := gT) (op := 18) (.bi 19 (.lit (vS s)) (.lit (vS t)))
  have o3 := fnOp1 (g := gT) (op := 18) (.lit (vS s))
  have o4 := fnOp1 (g := gT) (op := 18) (.lit (vS t))
  have o5 := fnOp2 (g := gT) (op := 5) (.un 18 (.lit (vS s))) (.un 18 (.lit (vS t)))
  have hp1 : 0 < s.size + t.size → 0 < runeCount s + runeCount t := fun h => by
    by_cases h0 : 0 < s.size
    · have := rune_pos h0; omega
    · have := rune_pos (s := t) (by omega); omega
  have hne : ((s ++ t).toList == (ByteArray.mk #[]).toList) = decide (s.size + t.size = 0) := by
    have hz : (s ++ t).toList = (ByteArray.mk #[]).toList ↔ s.size + t.size = 0 := by
      rw [ByteArray.toList_eq, ByteArray.toList_eq]
      have e : (s ++ t).data.toList.length = s.size + t.size := by rw [Array.length_toList]; exact ByteArray.size_append
      constructor
      · intro h; rw [h] at e; exact e.symm
      · intro h; rw [h] at e; exact List.eq_nil_of_length_eq_zero e
    by_cases h0 : s.size + t.size = 0
    · rw [decide_eq_true h0]; exact beq_iff_eq.2 (hz.2 h0)
    · rw [decide_eq_false h0]; exact beq_eq_false_iff_ne.2 (fun h => h0 (hz.1 h))
  have hnle : runeCount s + runeCount t ≤ s.size + t.size := by omega
  clear v1 v2 ta tls tlt tl tj ts tt hgs hgt
  generalize (Xp.bi 5 (.un 18 (.lit (vS s))) (.un 18 (.lit (vS t)))) = x5 at *
  generalize (Xp.un 18 (.lit (vS s))) = x3 at *
  generalize (Xp.un 18 (.lit (vS t))) = x4 at *
  generalize (Xp.un 18 (.bi 19 (.lit (vS s)) (.lit (vS t)))) = x2 at *
  generalize (Xp.bi 19 (.lit (vS s)) (.lit (vS t))) = x1 at *
  generalize (Xp.lit (vS s)) = xs at *
  generalize (Xp.lit (vS t)) = xt at *
  generalize runeCount s + runeCount t = n at *
  have s1 := sameV_iff.2 (rfl : vN (n : Int) = vN n)
  dsimp only [vlA, vN, List.map_nil] at e1 e2 s1
  by_cases h0 : s.size + t.size = 0
  ·
    have hne1 : (!((s ++ t).toList == (ByteArray.mk #[]).toList)) = false := by rw [hne, decide_eq_true h0]; rfl
    clear hne
    exact FnC.go hE mixed Tryd.func10 [(13, .fn _ _ _ c1), (15, .fn _ _ _ c2), (19, .fn _ _ _ l1), (22, .fn _ _ _ l2), (23, .fn _ _ _ o1), (24, .fn _ _ _ o2), (25, .fn _ _ _ e1), (31, .fn _ _ _ l1), (32, .fn _ _ _ o3), (35, .fn _ _ _ l2), (36, .fn _ _ _ o4), (37, .fn _ _ _ o5), (38, .fn _ _ _ e2), (42, .b true), (45, .b true), (50, hEq _ { kd := 2, n := ↑n, b := 0, s := noS } { kd := 2, n := ↑n, b := 0, s := noS } true), (55, .b true), (65, .b true), (70, .b false), (74, .b false), (75, .b true)]
  ·
    have hne1 : (!((s ++ t).toList == (ByteArray.mk #[]).toList)) = true := by rw [hne, decide_eq_false h0]; rfl
    clear hne
    have hn := hp1 (by omega)
    exact FnC.go hE mixed Tryd.func10 [(13, .fn _ _ _ c1), (15, .fn _ _ _ c2), (19, .fn _ _ _ l1), (22, .fn _ _ _ l2), (23, .fn _ _ _ o1), (24, .fn _ _ _ o2), (25, .fn _ _ _ e1), (31, .fn _ _ _ l1), (32, .fn _ _ _ o3), (35, .fn _ _ _ l2), (36, .fn _ _ _ o4), (37, .fn _ _ _ o5), (38, .fn _ _ _ e2), (42, .b true), (45, .b true), (50, hEq _ { kd := 2, n := ↑n, b := 0, s := noS } { kd := 2, n := ↑n, b := 0, s := noS } true), (55, .b true), (65, .b true), (70, .b true), (74, .b true), (75, .b true)]
end Go.Proofs.YtdigejpgjnhclaaDoor.Vm
