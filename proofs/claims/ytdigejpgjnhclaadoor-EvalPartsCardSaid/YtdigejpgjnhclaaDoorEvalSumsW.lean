/- EvalSums: its walk. Conditions: none beyond the tables of utf8. -/
import Derived.Test.YtdigejpgjnhclaaDoorEvalH
import Derived.Test.YtdigejpgjnhclaaDoorExecT
namespace Go.Proofs.YtdigejpgjnhclaaDoor.Vm
open Go Go.RowKit Go.Lib
set_option linter.unusedVariables false
set_option linter.unusedSimpArgs false
attribute [local irreducible] Ops Dr Run
abbrev kA : Kol := ⟨nmOf 97, 2, false⟩
abbrev kB : Kol := ⟨nmOf 98, 2, false⟩
theorem nmAB : ((nmOf 97).toList == (nmOf 98).toList) = false := nm_ap 97 98 (by omega) (by omega) (by omega)
theorem colsAB_ok : ColsOk [kA, kB] := by
  refine ⟨by simp, fun c hc => ?_, ?_⟩
  · rcases List.mem_cons.1 hc with rfl | hc
    · exact ⟨nmOf_ok (by omega) (by omega), by decide, by decide⟩
    · rw [List.mem_singleton.1 hc]; exact ⟨nmOf_ok (by omega) (by omega), by decide, by decide⟩
  · refine .cons (fun d hd => ?_) (by simp)
    rw [List.mem_singleton.1 hd]
    exact nmAB
theorem findAB_a : findC [kA, kB] (nmOf 97) = some kA := findC_mem colsAB_ok.ap kA (by simp)
theorem findAB_b : findC [kA, kB] (nmOf 98) = some kB := findC_mem colsAB_ok.ap kB (by simp)
theorem idxAB_a : idxC [kA, kB] (nmOf 97) = some 0 := by
  unfold idxC
  rw [List.findIdx?_cons, if_pos (beq_self_eq_true _)]
theorem idxAB_b : idxC [kA, kB] (nmOf 98) = some 1 := by
  unfold idxC
  rw [List.findIdx?_cons, if_neg (by rw [nmAB]; decide), List.findIdx?_cons, if_pos (beq_self_eq_true _)]
  rfl
theorem rowAB_ok {a b : Int} (ha : inR a) (hb : inR b) : RowOk [kA, kB] [vN a, vN b] := ⟨rfl, fun i c v hc hv => by
  match i with
  | 0 => simp at hc hv; subst hc; subst hv; exact ⟨.int a ha, .inl rfl⟩
  | 1 => simp at hc hv; subst hc; subst hv; exact ⟨.int b hb, .inl rfl⟩
  | i + 2 => simp at hc⟩
theorem tyA : Ty [kA, kB] 2 (.col (nmOf 97)) := Ty.col (c := kA) findAB_a (nmOf_ok (by omega) (by omega))
theorem tyB : Ty [kA, kB] 2 (.col (nmOf 98)) := Ty.col (c := kB) findAB_b (nmOf_ok (by omega) (by omega))
theorem valA (a b : Int) : valP [kA, kB] [vN a, vN b] (.col (nmOf 97)) = (vN a, 0) := by simp only [valP, idxAB_a]; rfl
theorem valB (a b : Int) : valP [kA, kB] [vN a, vN b] (.col (nmOf 98)) = (vN b, 0) := by simp only [valP, idxAB_b]; rfl
theorem short_lo {o : Int} (h14 : o ≤ 14) (v : Vl) : short o v = false := by
  have h1 : decide (o = 20) = false := decide_eq_false (by omega)
  have h2 : decide (o = 15) = false := decide_eq_false (by omega)
  have h3 : decide (o = 16) = false := decide_eq_false (by omega)
  unfold short
  rw [h1, h2, h3]
  rfl
theorem two_num {o : Int} (h5 : 5 ≤ o) (h8 : o ≤ 8) (a b : Int) : two2 o (vN a) (vN b) = reck o a b := by
  unfold two2
  rw [if_neg (by omega), if_neg (by omega), if_neg (by omega), if_neg (by omega), if_pos ⟨h5, h8⟩, if_neg (by simp [vN])]
  rfl
/-- What a reckoning of two parts says. -/
theorem val_num {cs : List Kol} {row : List Vl} {o : Int} (h5 : 5 ≤ o) (h8 : o ≤ 8) {x y : Xp} {a b : Int} (hx : valP cs row x = (vN a, 0)) (hy : valP cs row y = (vN b, 0)) : valP cs row (.bi o x y) = reck o a b := by
  simp only [valP, hx, hy, short_lo (o := o) (by omega), if_true, Bool.false_eq_true, if_false]
  exact two_num h5 h8 a b
theorem val_err {cs : List Kol} {row : List Vl} {o e : Int} {x y : Xp} {v : Vl} (hx : valP cs row x = (v, e)) (he : e ≠ 0) : valP cs row (.bi o x y) = (v0, e) := by
  simp only [valP, hx, if_neg he]
theorem ofInt_wrap (n : Int) : BitVec.ofInt 64 (IntKind.i64.wrap n) = BitVec.ofInt 64 n := by
  apply BitVec.eq_of_toNat_eq
  rw [BitVec.toNat_ofInt, BitVec.toNat_ofInt, IntKind.wrap_i64]
  congr 1
  omega
theorem and_odd (a b : Int) : ∃ q1 q2 : Int, IntKind.i64.wrap ((BitVec.ofInt IntKind.i64.bits a &&& BitVec.ofInt IntKind.i64.bits b).toNat : Int) = q1 ∧ IntKind.i64.wrap ((BitVec.ofInt IntKind.i64.bits q1 &&& BitVec.ofInt IntKind.i64.bits 1).toNat : Int) = q2 ∧ ((a % 2 = 1 ∧ b % 2 = 1 ∧ q2 = 1) ∨ (¬ (a % 2 = 1 ∧ b % 2 = 1) ∧ q2 = 0)) := by
  refine ⟨_, _, rfl, rfl, ?_⟩
  rw [show IntKind.i64.bits = 64 from rfl, ofInt_wrap]
  have hA : (BitVec.ofInt 64 a).toNat % 2 = (a % 2).toNat := by rw [BitVec.toNat_ofInt]; omega
  have hB : (BitVec.ofInt 64 b).toNat % 2 = (b % 2).toNat := by rw [BitVec.toNat_ofInt]; omega
  have h1 : (BitVec.ofInt 64 (((BitVec.ofInt 64 a &&& BitVec.ofInt 64 b).toNat : Nat) : Int) &&& BitVec.ofInt 64 1).toNat = ((BitVec.ofInt 64 a).toNat &&& (BitVec.ofInt 64 b).toNat) % 2 := by
    rw [BitVec.toNat_and, BitVec.toNat_ofInt, show (BitVec.ofInt 64 1).toNat = 1 from rfl, Nat.and_one_is_mod, BitVec.toNat_and]
    have := (BitVec.ofInt 64 a &&& BitVec.ofInt 64 b).isLt
    rw [BitVec.toNat_and] at this
    omega
  rw [h1]
  have h2 := Nat.testBit_and (BitVec.ofInt 64 a).toNat (BitVec.ofInt 64 b).toNat 0
  simp only [Nat.testBit_zero] at h2
  generalize (BitVec.ofInt 64 a).toNat = x at *
  generalize (BitVec.ofInt 64 b).toNat = y at *
  have h3 : (x &&& y) % 2 < 2 := Nat.mod_lt _ (by omega)
  generalize (x &&& y) % 2 = z at *
  have hz : IntKind.i64.wrap (z : Int) = z := wrap_i64 (by omega) (by omega)
  rw [hz]
  by_cases hc : x % 2 = 1 ∧ y % 2 = 1
  · left
    have : decide (z = 1) = true := by rw [h2]; simp [hc.1, hc.2]
    have := of_decide_eq_true this
    omega
  · right
    have : decide (z = 1) = false := by
      rw [h2]
      simp only [Bool.and_eq_false_iff, decide_eq_false_iff_not]
      by_cases h : x % 2 = 1
      · exact .inr (fun h' => hc ⟨h, h'⟩)
      · exact .inl h
    have := of_decide_eq_false this
    omega
theorem fdiv_two (a : Int) : a.fdiv (2 ^ (Min.min (Int.toNat 1) IntKind.i64.bits)) = a / 2 := by
  have : (2 : Int) ^ (Min.min (Int.toNat 1) IntKind.i64.bits) = 2 := rfl
  rw [this]
  exact Int.fdiv_eq_ediv_of_nonneg _ (by decide)
variable {g : Nat → Option (List PV)}
theorem fnInts {a b : Int} : FnC (En Tryd.prog g) 17 [.pv (.int .i64 a), .pv (.int .i64 b)] (.tup [.pv (.lst 3 ([kA, kB].map kolE)), .pv (.lst 4 ([vN a, vN b].map vlE))]) [] := by
  have hE := EnOk g
  exact FnC.go hE mixed Tryd.func17 []
theorem fnColA : FnC (En Tryd.prog g) 19 [] (xA (.col (nmOf 97))) [] := by
  have hE := EnOk g
  exact FnC.go hE mixed Tryd.func19 []
theorem fnColB : FnC (En Tryd.prog g) 20 [] (xA (.col (nmOf 98))) [] := by
  have hE := EnOk g
  exact FnC.go hE mixed Tryd.func20 []
theorem fnEvalSums {a b : Int} (ha : inR a) (hb : inR b) : FnC (En Tryd.prog gT) 5 [.pv (.int .i64 a), .pv (.int .i64 b)] (.pv (.bool true)) [] := by
  have hE := EnOk gT
  have hr := rowAB_ok ha hb
  have tS : Ty [kA, kB] 2 (.bi 5 (.col (nmOf 97)) (.col (nmOf 98))) := .bi (.inl ⟨by omega, by omega, rfl, rfl⟩) tyA tyB
  have tT : Ty [kA, kB] 2 (.bi 6 (.bi 5 (.col (nmOf 97)) (.col (nmOf 98))) (.col (nmOf 98))) := .bi (.inl ⟨by omega, by omega, rfl, rfl⟩) tS tyB
  have e1 := fnEval vstr colsAB_ok hr tS (by decide) (by decide)
  have e2 := fnEval vstr colsAB_ok hr tT (by decide) (by decide)
  have vS := val_num (o := 5) (by omega) (by omega) (valA a b) (valB a b)
  have ci := fnInts (g := gT) (a := a) (b := b)
  have ca := fnColA (g := gT)
  have cb := fnColB (g := gT)
  have o1 := fnOp2 (g := gT) (op := 5) (.col (nmOf 97)) (.col (nmOf 98))
  have o2 := fnOp2 (g := gT) (op := 6) (.bi 5 (.col (nmOf 97)) (.col (nmOf 98))) (.col (nmOf 98))
  obtain ⟨q1, q2, hq1, hq2, hq3⟩ := and_odd a b
  have fa := fdiv_two a
  have fb := fdiv_two b
  by_cases h : inR (a + b)
  ·
    have r5 : reck 5 a b = (vN (a + b), 0) := by unfold reck; rw [if_pos rfl, if_pos h]
    rw [r5] at vS
    have vT := val_num (o := 6) (by omega) (by omega) vS (valB a b)
    have r6 : reck 6 (a + b) b = (vN a, 0) := by unfold reck; rw [if_neg (by omega), if_pos rfl, show a + b - b = a by omega, if_pos ha]
    rw [r6] at vT
    rw [vS] at e1
    rw [vT] at e2
    clear tS tT hr vS vT r5 r6
    generalize (Xp.bi 6 (.bi 5 (.col (nmOf 97)) (.col (nmOf 98))) (.col (nmOf 98))) = xT at *
    generalize (Xp.bi 5 (.col (nmOf 97)) (.col (nmOf 98))) = xS at *
    have s1 := sameV_iff.2 (rfl : vN (a + b) = vN (a + b))
    have s2 := sameV_iff.2 (rfl : vN a = vN a)
    unfold inR at h ha hb
    dsimp only [vlA, vN] at e1 e2 s1 s2
    exact FnC.go hE mixed Tryd.func5 [(16, .fn _ _ _ ci), (20, .fn _ _ _ ca), (21, .fn _ _ _ cb), (22, .fn _ _ _ o1), (25, .fn _ _ _ e1), (29, .fn _ _ _ ca), (30, .fn _ _ _ cb), (31, .fn _ _ _ o1), (32, .fn _ _ _ cb), (33, .fn _ _ _ o2), (36, .fn _ _ _ e2), (40, .w (a / 2)), (42, .w (b / 2)), (46, .w q1), (47, .w q2), (50, .b true), (53, .b true), (64, .b true), (67, .b true), (75, hEq gT ⟨2, a + b, 0, noS⟩ ⟨2, a + b, 0, noS⟩ true), (81, hEq gT ⟨2, a, 0, noS⟩ ⟨2, a, 0, noS⟩ true)]
  ·
    have r5 : reck 5 a b = (v0, 6) := by unfold reck; rw [if_pos rfl, if_neg h]
    rw [r5] at vS
    have vT := val_err (o := 6) (y := .col (nmOf 98)) vS (by omega)
    rw [vS] at e1
    rw [vT] at e2
    clear tS tT hr vS vT r5
    generalize (Xp.bi 6 (.bi 5 (.col (nmOf 97)) (.col (nmOf 98))) (.col (nmOf 98))) = xT at *
    generalize (Xp.bi 5 (.col (nmOf 97)) (.col (nmOf 98))) = xS at *
    unfold inR at h ha hb
    dsimp only [vlA] at e1 e2
    by_cases hl : -4611686018427387904 ≤ a / 2 + b / 2 + q2
    · exact FnC.go hE mixed Tryd.func5 [(16, .fn _ _ _ ci), (20, .fn _ _ _ ca), (21, .fn _ _ _ cb), (22, .fn _ _ _ o1), (25, .fn _ _ _ e1), (29, .fn _ _ _ ca), (30, .fn _ _ _ cb), (31, .fn _ _ _ o1), (32, .fn _ _ _ cb), (33, .fn _ _ _ o2), (36, .fn _ _ _ e2), (40, .w (a / 2)), (42, .w (b / 2)), (46, .w q1), (47, .w q2), (50, .b true), (53, .b false), (58, .b true), (61, .b true)]
    · exact FnC.go hE mixed Tryd.func5 [(16, .fn _ _ _ ci), (20, .fn _ _ _ ca), (21, .fn _ _ _ cb), (22, .fn _ _ _ o1), (25, .fn _ _ _ e1), (29, .fn _ _ _ ca), (30, .fn _ _ _ cb), (31, .fn _ _ _ o1), (32, .fn _ _ _ cb), (33, .fn _ _ _ o2), (36, .fn _ _ _ e2), (40, .w (a / 2)), (42, .w (b / 2)), (46, .w q1), (47, .w q2), (50, .b false), (58, .b true), (61, .b true)]
end Go.Proofs.YtdigejpgjnhclaaDoor.Vm
