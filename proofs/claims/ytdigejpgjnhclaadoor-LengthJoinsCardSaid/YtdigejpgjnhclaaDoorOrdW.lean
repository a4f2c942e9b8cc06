/- Which of two values stands first, and comparisons. Conditions: what utf8.ValidString answers. (Out of the texts of the rows' order.) -/
import Derived.Test.YtdigejpgjnhclaaDoorEvalB
import Derived.Test.YtdigejpgjnhclaaDoorExecT
section
namespace Go.Proofs.YtdigejpgjnhclaaDoor.Vm
open Go Go.RowKit Go.Lib
set_option linter.unusedVariables false
set_option linter.unusedSimpArgs false
attribute [local irreducible] Ops Dr Run
variable {g : Nat → Option (List PV)}
theorem fnReckNull {op : Int} {v w : Vl} (hv : Of 2 v) (hw : Of 2 w) (h : v.kd = 0 ∨ w.kd = 0) : FnC (En Tryd.prog g) 91 [.pv (.int .i64 op), vlA v, vlA w] (.tup [vlA v0, .pv (.int .i64 0)]) [] := by
  have hE := EnOk g
  have c1 := fnAskedE (g := g) (k := 2) (by omega) hv hw
  obtain ⟨vk, vn, vb, vs⟩ := v
  obtain ⟨wk, wn, wb, ws⟩ := w
  dsimp only at h
  dsimp only [vlA] at c1 ⊢
  refine FnC.of Tryd.func91 rfl rfl rfl rfl ?_
  by_cases hk : vk = 0
  ·
    repeat (first | refine Run.seq ?_ | refine Run.skip ?_ | refine Run.block ?_)
    refine Run.region ?_
    refine O.box 4 rfl (by first | rfl | exact cells_ones (by simp [ones_app, ones_ints, ones, AV.one, PV.one])) rfl rfl ?_
    refine O.box 5 rfl (by first | rfl | exact cells_ones (by simp [ones_app, ones_ints, ones, AV.one, PV.one])) rfl rfl ?_
    refine O.alloc hE 6 T25 rfl rfl rfl ?_
    refine O.assign rfl rfl ?_
    refine O.nil ?_
    try refine Run.keep [0,1,2,4,5,6,7,8,9,10,11,12,16,25,31,33,41,46,60,63,77,80,87,114] rfl rfl ?_
    repeat (first | refine Run.seq ?_ | refine Run.skip ?_ | refine Run.block ?_)
    refine Run.region ?_
    refine O.load hE T25 rfl rfl rfl rfl ?_
    refine O.load hE T25 rfl rfl rfl rfl ?_
    refine O.callE c1 rfl (by first | rfl | simp [closed, men3, mens2_app, mens2_ints, mens2, men2, men1, mens1_app, mens1_ints, mens1]) (by first | rfl | simp [d2, ds1_ints, ds1_app, ds1, d1, ds0_app, ds0_ints, ds0, d0]) rfl ?_
    refine O.un rfl rfl rfl rfl rfl ?_
    refine O.nil ?_
    try refine Run.keep [0,1,2,4,5,6,7,8,9,10,11,12,16,25,31,33,41,46,60,63,77,80,87,114] rfl rfl ?_
    repeat (first | refine Run.seq ?_ | refine Run.skip ?_)
    first | refine Run.condT rfl rfl ?_ | refine Run.condF rfl rfl ?_ | refine Run.condT rfl (by assumption) ?_ | refine Run.condF rfl (by assumption) ?_
    repeat (first | refine Run.seq ?_ | refine Run.skip ?_ | refine Run.block ?_)
    refine Run.region ?_
    refine O.field hE L25 rfl rfl rfl rfl ?_
    first | refine O.loadS hE T3 rfl rfl rfl (by rfl) rfl ?_ | refine O.loadE hE T3 rfl rfl (by rfl) rfl ?_ | refine O.load hE T3 rfl rfl rfl rfl ?_
    first | refine O.cmp rfl rfl rfl (by first | exact dT (by omega) | exact dF (by omega)) rfl ?_ | refine O.cmp rfl rfl rfl rfl rfl ?_
    refine O.move rfl rfl ?_
    first | (refine O.yes rfl rfl (by trivial) ?_; refine O.field hE L25 rfl rfl rfl rfl ?_) | refine O.no rfl rfl rfl rfl ?_
    first | (refine O.yes rfl rfl (by trivial) ?_; first | refine O.loadS hE T3 rfl rfl rfl (by rfl) rfl ?_ | refine O.loadE hE T3 rfl rfl (by rfl) rfl ?_ | refine O.load hE T3 rfl rfl rfl rfl ?_) | refine O.no rfl rfl rfl rfl ?_
    first | (refine O.yes rfl rfl (by trivial) ?_; first | refine O.cmp rfl rfl rfl (by first | exact dT (by omega) | exact dF (by omega)) rfl ?_ | refine O.cmp rfl rfl rfl rfl rfl ?_) | refine O.no rfl rfl rfl rfl ?_
    refine O.pick rfl rfl rfl rfl rfl ?_
    refine O.nil ?_
    try refine Run.keep [0,1,2,4,5,6,7,8,9,10,11,12,16,25,31,33,41,46,60,63,77,80,87,114] rfl rfl ?_
    repeat (first | refine Run.seq ?_ | refine Run.skip ?_)
    first | refine Run.condT rfl rfl ?_ | refine Run.condF rfl rfl ?_ | refine Run.condT rfl (by assumption) ?_ | refine Run.condF rfl (by assumption) ?_
    repeat (first | refine Run.seq ?_ | refine Run.skip ?_ | refine Run.block ?_)
    refine Run.region ?_
    refine O.build hE T25 L25 rfl rfl rfl ?_
    refine O.store hE T25 rfl rfl rfl rfl rfl rfl ?_
    refine O.assign rfl rfl ?_
    refine O.nil ?_
    try refine Run.keep [0,1,2,4,5,6,7,8,9,10,11,12,16,25,31,33,41,46,60,63,77,80,87,114] rfl rfl ?_
    (repeat (first | refine Run.seq ?_ | refine Run.skip ?_)); (try refine Run.ret ?_); first | exact Ends.flat hE (.inr rfl) rfl rfl (AVle.of_eq rfl) rfl | exact Ends.flat hE (.inl rfl) rfl rfl (AVle.of_eq rfl) rfl
  ·
    have hw0 : wk = 0 := h.resolve_left hk
    repeat (first | refine Run.seq ?_ | refine Run.skip ?_ | refine Run.block ?_)
    refine Run.region ?_
    refine O.box 4 rfl (by first | rfl | exact cells_ones (by simp [ones_app, ones_ints, ones, AV.one, PV.one])) rfl rfl ?_
    refine O.box 5 rfl (by first | rfl | exact cells_ones (by simp [ones_app, ones_ints, ones, AV.one, PV.one])) rfl rfl ?_
    refine O.alloc hE 6 T25 rfl rfl rfl ?_
    refine O.assign rfl rfl ?_
    refine O.nil ?_
    try refine Run.keep [0,1,2,4,5,6,7,8,9,10,11,12,16,25,31,33,41,46,60,63,77,80,87,114] rfl rfl ?_
    repeat (first | refine Run.seq ?_ | refine Run.skip ?_ | refine Run.block ?_)
    refine Run.region ?_
    refine O.load hE T25 rfl rfl rfl rfl ?_
    refine O.load hE T25 rfl rfl rfl rfl ?_
    refine O.callE c1 rfl (by first | rfl | simp [closed, men3, mens2_app, mens2_ints, mens2, men2, men1, mens1_app, mens1_ints, mens1]) (by first | rfl | simp [d2, ds1_ints, ds1_app, ds1, d1, ds0_app, ds0_ints, ds0, d0]) rfl ?_
    refine O.un rfl rfl rfl rfl rfl ?_
    refine O.nil ?_
    try refine Run.keep [0,1,2,4,5,6,7,8,9,10,11,12,16,25,31,33,41,46,60,63,77,80,87,114] rfl rfl ?_
    repeat (first | refine Run.seq ?_ | refine Run.skip ?_)
    first | refine Run.condT rfl rfl ?_ | refine Run.condF rfl rfl ?_ | refine Run.condT rfl (by assumption) ?_ | refine Run.condF rfl (by assumption) ?_
    repeat (first | refine Run.seq ?_ | refine Run.skip ?_ | refine Run.block ?_)
    refine Run.region ?_
    refine O.field hE L25 rfl rfl rfl rfl ?_
    first | refine O.loadS hE T3 rfl rfl rfl (by rfl) rfl ?_ | refine O.loadE hE T3 rfl rfl (by rfl) rfl ?_ | refine O.load hE T3 rfl rfl rfl rfl ?_
    first | refine O.cmp rfl rfl rfl (by first | exact dT (by omega) | exact dF (by omega)) rfl ?_ | refine O.cmp rfl rfl rfl rfl rfl ?_
    refine O.move rfl rfl ?_
    first | (refine O.yes rfl rfl (by trivial) ?_; refine O.field hE L25 rfl rfl rfl rfl ?_) | refine O.no rfl rfl rfl rfl ?_
    first | (refine O.yes rfl rfl (by trivial) ?_; first | refine O.loadS hE T3 rfl rfl rfl (by rfl) rfl ?_ | refine O.loadE hE T3 rfl rfl (by rfl) rfl ?_ | refine O.load hE T3 rfl rfl rfl rfl ?_) | refine O.no rfl rfl rfl rfl ?_
    first | (refine O.yes rfl rfl (by trivial) ?_; first | refine O.cmp rfl rfl rfl (by first | exact dT (by omega) | exact dF (by omega)) rfl ?_ | refine O.cmp rfl rfl rfl rfl rfl ?_) | refine O.no rfl rfl rfl rfl ?_
    refine O.pick rfl rfl rfl rfl rfl ?_
    refine O.nil ?_
    try refine Run.keep [0,1,2,4,5,6,7,8,9,10,11,12,16,25,31,33,41,46,60,63,77,80,87,114] rfl rfl ?_
    repeat (first | refine Run.seq ?_ | refine Run.skip ?_)
    first | refine Run.condT rfl rfl ?_ | refine Run.condF rfl rfl ?_ | refine Run.condT rfl (by assumption) ?_ | refine Run.condF rfl (by assumption) ?_
    repeat (first | refine Run.seq ?_ | refine Run.skip ?_ | refine Run.block ?_)
    refine Run.region ?_
    refine O.build hE T25 L25 rfl rfl rfl ?_
    refine O.store hE T25 rfl rfl rfl rfl rfl rfl ?_
    refine O.assign rfl rfl ?_
    refine O.nil ?_
    try refine Run.keep [0,1,2,4,5,6,7,8,9,10,11,12,16,25,31,33,41,46,60,63,77,80,87,114] rfl rfl ?_
    (repeat (first | refine Run.seq ?_ | refine Run.skip ?_)); (try refine Run.ret ?_); first | exact Ends.flat hE (.inr rfl) rfl rfl (AVle.of_eq rfl) rfl | exact Ends.flat hE (.inl rfl) rfl rfl (AVle.of_eq rfl) rfl
set_option maxHeartbeats 2000000 in
theorem fnReckAdd {a b : Int} (ha : inR a) (hb : inR b) : FnC (En Tryd.prog g) 91 [.pv (.int .i64 5), vlA (vN a), vlA (vN b)] (.tup [vlA (reck 5 a b).1, .pv (.int .i64 (reck 5 a b).2)]) [] := by
  have hE := EnOk g
  have c1 := fnAskedE (g := g) (k := 2) (v := vN a) (w := vN b) (by omega) (.inl rfl) (.inl rfl)
  dsimp only [vlA, vN] at c1
  by_cases h : inR (a + b)
  ·
    have e : reck 5 a b = (vN (a + b), 0) := by unfold reck; rw [if_pos rfl, if_pos h]
    unfold inR at h ha hb
    by_cases hb0 : 0 < b
    ·
      rw [e]
      have cn := fnNumber (g := g) (n := a + b)
      dsimp only [vlA, vN] at cn
      dsimp only [vlA, vN]
      exact FnC.go hE mixed Tryd.func91 [(15, .fn _ _ _ c1), (20, .b false), (24, .b false), (47, .b true), (53, .b true), (55, .b true), (56, .b true), (62, .fn _ _ _ cn)]
    ·
      rw [e]
      have cn := fnNumber (g := g) (n := a + b)
      dsimp only [vlA, vN] at cn
      dsimp only [vlA, vN]
      exact FnC.go hE mixed Tryd.func91 [(15, .fn _ _ _ c1), (20, .b false), (24, .b false), (47, .b true), (53, .b false), (55, .b false), (56, .b true), (62, .fn _ _ _ cn)]
  ·
    have e : reck 5 a b = (v0, 6) := by unfold reck; rw [if_pos rfl, if_neg h]
    unfold inR at h ha hb
    by_cases hb0 : 0 < b
    ·
      rw [e]
      have hW : IntKind.i64.wrap (a + b) = a + b - 18446744073709551616 := by rw [IntKind.wrap_i64]; omega
      dsimp only [vlA, vN]
      exact FnC.go hE mixed Tryd.func91 [(15, .fn _ _ _ c1), (20, .b false), (24, .b false), (47, .b true), (50, .w (a + b - 18446744073709551616)), (53, .b false), (55, .b true), (56, .b false), (59, .b false)]
    ·
      rw [e]
      have hW : IntKind.i64.wrap (a + b) = a + b + 18446744073709551616 := by rw [IntKind.wrap_i64]; omega
      dsimp only [vlA, vN]
      exact FnC.go hE mixed Tryd.func91 [(15, .fn _ _ _ c1), (20, .b false), (24, .b false), (47, .b true), (50, .w (a + b + 18446744073709551616)), (53, .b true), (55, .b false), (56, .b false), (59, .b false)]
set_option maxHeartbeats 2000000 in
theorem fnReckSub {a b : Int} (ha : inR a) (hb : inR b) : FnC (En Tryd.prog g) 91 [.pv (.int .i64 6), vlA (vN a), vlA (vN b)] (.tup [vlA (reck 6 a b).1, .pv (.int .i64 (reck 6 a b).2)]) [] := by
  have hE := EnOk g
  have c1 := fnAskedE (g := g) (k := 2) (v := vN a) (w := vN b) (by omega) (.inl rfl) (.inl rfl)
  dsimp only [vlA, vN] at c1
  by_cases h : inR (a - b)
  ·
    have e : reck 6 a b = (vN (a - b), 0) := by unfold reck; rw [if_neg (by omega), if_pos rfl, if_pos h]
    unfold inR at h ha hb
    by_cases hb0 : 0 < b
    ·
      rw [e]
      have cn := fnNumber (g := g) (n := a - b)
      dsimp only [vlA, vN] at cn
      dsimp only [vlA, vN]
      exact FnC.go hE mixed Tryd.func91 [(15, .fn _ _ _ c1), (20, .b false), (24, .b false), (47, .b false), (64, .b true), (70, .b true), (72, .b true), (73, .b true), (79, .fn _ _ _ cn)]
    ·
      rw [e]
      have cn := fnNumber (g := g) (n := a - b)
      dsimp only [vlA, vN] at cn
      dsimp only [vlA, vN]
      exact FnC.go hE mixed Tryd.func91 [(15, .fn _ _ _ c1), (20, .b false), (24, .b false), (47, .b false), (64, .b true), (70, .b false), (72, .b false), (73, .b true), (79, .fn _ _ _ cn)]
  ·
    have e : reck 6 a b = (v0, 6) := by unfold reck; rw [if_neg (by omega), if_pos rfl, if_neg h]
    unfold inR at h ha hb
    by_cases hb0 : 0 < b
    ·
      rw [e]
      have hW : IntKind.i64.wrap (a - b) = a - b + 18446744073709551616 := by rw [IntKind.wrap_i64]; omega
      dsimp only [vlA, vN]
      exact FnC.go hE mixed Tryd.func91 [(15, .fn _ _ _ c1), (20, .b false), (24, .b false), (47, .b false), (64, .b true), (67, .w (a - b + 18446744073709551616)), (70, .b false), (72, .b true), (73, .b false), (76, .b false)]
    ·
      rw [e]
      have hW : IntKind.i64.wrap (a - b) = a - b - 18446744073709551616 := by rw [IntKind.wrap_i64]; omega
      dsimp only [vlA, vN]
      exact FnC.go hE mixed Tryd.func91 [(15, .fn _ _ _ c1), (20, .b false), (24, .b false), (47, .b false), (64, .b true), (67, .w (a - b - 18446744073709551616)), (70, .b true), (72, .b false), (73, .b false), (76, .b false)]
set_option maxHeartbeats 2000000 in
theorem fnReckMul {a b : Int} (ha : inR a) (hb : inR b) : FnC (En Tryd.prog g) 91 [.pv (.int .i64 7), vlA (vN a), vlA (vN b)] (.tup [vlA (reck 7 a b).1, .pv (.int .i64 (reck 7 a b).2)]) [] := by
  have hE := EnOk g
  have c1 := fnAskedE (g := g) (k := 2) (v := vN a) (w := vN b) (by omega) (.inl rfl) (.inl rfl)
  dsimp only [vlA, vN] at c1
  by_cases ha0 : a = 0
  ·
    subst ha0
    rw [show reck 7 0 b = (vN 0, 0) by unfold reck; rw [if_neg (by omega), if_neg (by omega), if_pos rfl, Int.zero_mul, if_pos (by unfold inR; omega)]]
    have cn := fnNumber (g := g) (n := 0)
    dsimp only [vlA, vN] at cn
    dsimp only [vlA, vN]
    exact FnC.go hE mixed Tryd.func91 [(15, .fn _ _ _ c1), (20, .b false), (24, .b false), (47, .b false), (64, .b false), (81, .b true), (83, .b true), (88, .fn _ _ _ cn)]
  by_cases hb0 : b = 0
  ·
    subst hb0
    rw [show reck 7 a 0 = (vN 0, 0) by unfold reck; rw [if_neg (by omega), if_neg (by omega), if_pos rfl, Int.mul_zero, if_pos (by unfold inR; omega)]]
    have cn := fnNumber (g := g) (n := 0)
    dsimp only [vlA, vN] at cn
    dsimp only [vlA, vN]
    exact FnC.go hE mixed Tryd.func91 [(15, .fn _ _ _ c1), (20, .b false), (24, .b false), (47, .b false), (64, .b false), (81, .b true), (83, .b false), (86, .b true), (88, .fn _ _ _ cn)]
  have hQ0 : inR (a * b) → IntKind.i64.wrap ((IntKind.i64.wrap (a * b)).tdiv b) = a := fun h => by rw [wrap_id h]; exact mul_ok ha hb0
  have hQ1 : ¬ inR (a * b) → ¬ (b = -1 ∧ a = -9223372036854775808) → IntKind.i64.wrap ((IntKind.i64.wrap (a * b)).tdiv b) ≠ a := fun h h1 => mul_bad ha hb hb0 h h1
  have hx1 : a = -1 → b = -9223372036854775808 → ¬ inR (a * b) := fun h1 h2 => by subst h1; subst h2; unfold inR; omega
  have hx2 : b = -1 → a = -9223372036854775808 → ¬ inR (a * b) := fun h1 h2 => by subst h1; subst h2; unfold inR; omega
  have eT : inR (a * b) → reck 7 a b = (vN (a * b), 0) := fun h => by unfold reck; rw [if_neg (by omega), if_neg (by omega), if_pos rfl, if_pos h]
  have eF : ¬ inR (a * b) → reck 7 a b = (v0, 6) := fun h => by unfold reck; rw [if_neg (by omega), if_neg (by omega), if_pos rfl, if_neg h]
  have hW0 : inR (a * b) → IntKind.i64.wrap (a * b) = a * b := wrap_id
  obtain ⟨W, hW⟩ : ∃ W, IntKind.i64.wrap (a * b) = W := ⟨_, rfl⟩
  rw [hW] at hQ0 hQ1 hW0
  obtain ⟨Q, hQ⟩ : ∃ Q, IntKind.i64.wrap (W.tdiv b) = Q := ⟨_, rfl⟩
  rw [hQ] at hQ0 hQ1
  have hsh : (a = -1 ∧ b = -9223372036854775808) ∨ (b = -1 ∧ a = -9223372036854775808) ∨ (a = -1 ∧ b = -1) ∨ (a = -1 ∧ b ≠ -1 ∧ b ≠ -9223372036854775808) ∨ (a ≠ -1 ∧ b = -1 ∧ a ≠ -9223372036854775808) ∨ (a ≠ -1 ∧ b ≠ -1) := by omega
  rcases hsh with ⟨h1, h2⟩ | ⟨h1, h2⟩ | ⟨h1, h2⟩ | ⟨h1, h2, h3⟩ | ⟨h1, h2, h3⟩ | ⟨h1, h2⟩
  ·
    rw [eF (hx1 h1 h2)]
    clear hQ0 hQ1 hx1 hx2 eT eF hW0
    dsimp only [vlA, vN]
    exact FnC.go hE mixed Tryd.func91 [(15, .fn _ _ _ c1), (20, .b false), (24, .b false), (47, .b false), (64, .b false), (81, .b true), (83, .b false), (86, .b false), (91, .w W), (93, .b true), (96, .b true)]
  ·
    rw [eF (hx2 h1 h2)]
    clear hQ0 hQ1 hx1 hx2 eT eF hW0
    dsimp only [vlA, vN]
    exact FnC.go hE mixed Tryd.func91 [(15, .fn _ _ _ c1), (20, .b false), (24, .b false), (47, .b false), (64, .b false), (81, .b true), (83, .b false), (86, .b false), (91, .w W), (93, .b false), (101, .b true), (104, .b true)]
  ·
    by_cases h : inR (a * b)
    ·
      rw [eT h]
      have hQa := hQ0 h
      rw [← hW0 h]
      clear hQ0 hQ1 hx1 hx2 eT eF hW0 h
      have cn := fnNumber (g := g) (n := W)
      dsimp only [vlA, vN] at cn
      dsimp only [vlA, vN]
      exact FnC.go hE mixed Tryd.func91 [(15, .fn _ _ _ c1), (20, .b false), (24, .b false), (47, .b false), (64, .b false), (81, .b true), (83, .b false), (86, .b false), (91, .w W), (93, .b true), (96, .b false), (101, .b true), (104, .b false), (111, .w Q), (113, .b true), (116, .fn _ _ _ cn)]
    ·
      rw [eF h]
      have hQa := hQ1 h (by omega)
      clear hQ0 hQ1 hx1 hx2 eT eF hW0 h
      dsimp only [vlA, vN]
      exact FnC.go hE mixed Tryd.func91 [(15, .fn _ _ _ c1), (20, .b false), (24, .b false), (47, .b false), (64, .b false), (81, .b true), (83, .b false), (86, .b false), (91, .w W), (93, .b true), (96, .b false), (101, .b true), (104, .b false), (111, .w Q), (113, .b false)]
  ·
    by_cases h : inR (a * b)
    ·
      rw [eT h]
      have hQa := hQ0 h
      rw [← hW0 h]
      clear hQ0 hQ1 hx1 hx2 eT eF hW0 h
      have cn := fnNumber (g := g) (n := W)
      dsimp only [vlA, vN] at cn
      dsimp only [vlA, vN]
      exact FnC.go hE mixed Tryd.func91 [(15, .fn _ _ _ c1), (20, .b false), (24, .b false), (47, .b false), (64, .b false), (81, .b true), (83, .b false), (86, .b false), (91, .w W), (93, .b true), (96, .b false), (101, .b false), (111, .w Q), (113, .b true), (116, .fn _ _ _ cn)]
    ·
      rw [eF h]
      have hQa := hQ1 h (by omega)
      clear hQ0 hQ1 hx1 hx2 eT eF hW0 h
      dsimp only [vlA, vN]
      exact FnC.go hE mixed Tryd.func91 [(15, .fn _ _ _ c1), (20, .b false), (24, .b false), (47, .b false), (64, .b false), (81, .b true), (83, .b false), (86, .b false), (91, .w W), (93, .b true), (96, .b false), (101, .b false), (111, .w Q), (113, .b false)]
  ·
    by_cases h : inR (a * b)
    ·
      rw [eT h]
      have hQa := hQ0 h
      rw [← hW0 h]
      clear hQ0 hQ1 hx1 hx2 eT eF hW0 h
      have cn := fnNumber (g := g) (n := W)
      dsimp only [vlA, vN] at cn
      dsimp only [vlA, vN]
      exact FnC.go hE mixed Tryd.func91 [(15, .fn _ _ _ c1), (20, .b false), (24, .b false), (47, .b false), (64, .b false), (81, .b true), (83, .b false), (86, .b false), (91, .w W), (93, .b false), (101, .b true), (104, .b false), (111, .w Q), (113, .b true), (116, .fn _ _ _ cn)]
    ·
      rw [eF h]
      have hQa := hQ1 h (by omega)
      clear hQ0 hQ1 hx1 hx2 eT eF hW0 h
      dsimp only [vlA, vN]
      exact FnC.go hE mixed Tryd.func91 [(15, .fn _ _ _ c1), (20, .b false), (24, .b false), (47, .b false), (64, .b false), (81, .b true), (83, .b false), (86, .b false), (91, .w W), (93, .b false), (101, .b true), (104, .b false), (111, .w Q), (113, .b false)]
  ·
    by_cases h : inR (a * b)
    ·
      rw [eT h]
      have hQa := hQ0 h
      rw [← hW0 h]
      clear hQ0 hQ1 hx1 hx2 eT eF hW0 h
      have cn := fnNumber (g := g) (n := W)
      dsimp only [vlA, vN] at cn
      dsimp only [vlA, vN]
      exact FnC.go hE mixed Tryd.func91 [(15, .fn _ _ _ c1), (20, .b false), (24, .b false), (47, .b false), (64, .b false), (81, .b true), (83, .b false), (86, .b false), (91, .w W), (93, .b false), (101, .b false), (111, .w Q), (113, .b true), (116, .fn _ _ _ cn)]
    ·
      rw [eF h]
      have hQa := hQ1 h (by omega)
      clear hQ0 hQ1 hx1 hx2 eT eF hW0 h
      dsimp only [vlA, vN]
      exact FnC.go hE mixed Tryd.func91 [(15, .fn _ _ _ c1), (20, .b false), (24, .b false), (47, .b false), (64, .b false), (81, .b true), (83, .b false), (86, .b false), (91, .w W), (93, .b false), (101, .b false), (111, .w Q), (113, .b false)]
set_option maxHeartbeats 2000000 in
theorem fnReckDiv {a b : Int} (ha : inR a) (hb : inR b) : FnC (En Tryd.prog g) 91 [.pv (.int .i64 8), vlA (vN a), vlA (vN b)] (.tup [vlA (reck 8 a b).1, .pv (.int .i64 (reck 8 a b).2)]) [] := by
  have hE := EnOk g
  have c1 := fnAskedE (g := g) (k := 2) (v := vN a) (w := vN b) (by omega) (.inl rfl) (.inl rfl)
  dsimp only [vlA, vN] at c1
  by_cases hb0 : b = 0
  ·
    rw [show reck 8 a b = (v0, 7) by unfold reck; rw [if_neg (by omega), if_neg (by omega), if_neg (by omega), if_pos hb0]]
    dsimp only [vlA, vN]
    exact FnC.go hE mixed Tryd.func91 [(15, .fn _ _ _ c1), (20, .b false), (24, .b false), (47, .b false), (64, .b false), (81, .b false), (33, .b true)]
  by_cases hx : a = -9223372036854775808 ∧ b = -1
  ·
    obtain ⟨h1, h2⟩ := hx
    rw [show reck 8 a b = (v0, 6) by unfold reck; rw [if_neg (by omega), if_neg (by omega), if_neg (by omega), if_neg hb0, if_neg (by subst h1; subst h2; unfold inR; decide)]]
    dsimp only [vlA, vN]
    exact FnC.go hE mixed Tryd.func91 [(15, .fn _ _ _ c1), (20, .b false), (24, .b false), (47, .b false), (64, .b false), (81, .b false), (33, .b false), (36, .b true), (39, .b true)]
  have hin := tdiv_in ha hb0 hx
  have hQ := wrap_id hin
  have eT : reck 8 a b = (vN (a.tdiv b), 0) := by unfold reck; rw [if_neg (by omega), if_neg (by omega), if_neg (by omega), if_neg hb0, if_pos hin]
  clear hin
  obtain ⟨q, hq⟩ : ∃ q, a.tdiv b = q := ⟨_, rfl⟩
  rw [hq] at eT
  have hQ : IntKind.i64.wrap (a.tdiv b) = q := by rw [hQ, hq]
  by_cases h1 : a = -9223372036854775808
  ·
    have h2 : b ≠ -1 := fun e => hx ⟨h1, e⟩
    rw [eT]
    clear eT
    have cn := fnNumber (g := g) (n := q)
    dsimp only [vlA, vN] at cn
    dsimp only [vlA, vN]
    exact FnC.go hE mixed Tryd.func91 [(15, .fn _ _ _ c1), (20, .b false), (24, .b false), (47, .b false), (64, .b false), (81, .b false), (33, .b false), (36, .b true), (39, .b false), (44, .w q), (45, .fn _ _ _ cn)]
  ·
    rw [eT]
    clear eT
    have cn := fnNumber (g := g) (n := q)
    dsimp only [vlA, vN] at cn
    dsimp only [vlA, vN]
    exact FnC.go hE mixed Tryd.func91 [(15, .fn _ _ _ c1), (20, .b false), (24, .b false), (47, .b false), (64, .b false), (81, .b false), (33, .b false), (36, .b false), (44, .w q), (45, .fn _ _ _ cn)]
end Go.Proofs.YtdigejpgjnhclaaDoor.Vm
end
section
namespace Go.Proofs.YtdigejpgjnhclaaDoor.Vm
open Go Go.RowKit Go.Lib
set_option linter.unusedVariables false
set_option linter.unusedSimpArgs false
attribute [local irreducible] Ops Dr Run
def lessB (v w : Vl) : Bool :=
  if v.kd = w.kd then (if v.kd = 3 then FloatKind.f64.format.order v.b.toNat w.b.toNat == some .lt else if v.kd = 4 then Op.bytesLess v.s.toList w.s.toList else decide (v.n < w.n)) else decide (v.kd < w.kd)
def moreB (v w : Vl) : Bool :=
  if v.kd = w.kd then (if v.kd = 3 then FloatKind.f64.format.order v.b.toNat w.b.toNat == some .gt else if v.kd = 4 then !(Op.bytesLess v.s.toList w.s.toList || v.s.toList == w.s.toList) else decide (w.n < v.n)) else decide (w.kd < v.kd)
def ordV (v w : Vl) : Int := if lessB v w then -1 else if moreB v w then 1 else 0
section
variable {E : Env} {n : Nat} {tm : List (Nat × AV)} {bx : List (Nat × Box)} {ops : Array Oper} {l : List Oper} {d : Tmp} {ty : TypeId} {pos : String} {after : Array Edge}
theorem D.extern {Θ : List Rec → St → Prop} {f : FuncId} {fn : Func} {e : Array Value → Sem Value} {y : Operand} {ts : Array TypeId} {p : PV} {u v : Value} {x : AV} (hf : E.P.funcs[f]? = some fn) (hname : (fn.name == "runtime.NumGoroutine") = false) (hb : fn.body.isNone = true) (hn : Extern.findNext fn = none) (he : Extern.find fn = some e)
    (hy : evO E tm y = some (.pv p)) (hp : p.val? = some u) (hrun : ∀ w, (e #[u]).run E.P w = .ok v w) (hx : AV.ofVal v = some x) (hd : Nat.blt d n = true) (h : Dr E.P E.g ops l ⟨n, (d, x) :: tm, bx⟩ (fun rs => Θ (⟨rtOf y (.pv p), [], [], some d, x, []⟩ :: rs))) :
    Dr E.P E.g ops (⟨some d, .call { callee := .value (.func f), args := #[y], argTypes := ts }, ty, pos, after, none⟩ :: l) ⟨n, tm, bx⟩ Θ := by
  refine D.of (rt := rtOf y (.pv p)) (rb := []) (rt_now hy) none_met hd (fun s hs _ hd' => ?_) h
  refine OpOk.val (o := ⟨some d, .call { callee := .value (.func f), args := #[y], argTypes := ts }, ty, pos, after, none⟩) (s := s) (fun t ht => by obtain rfl := Option.some.inj ht; exact hd') (fun cx a w G hP hg hs' => ⟨v, ?_, RA.ofVal hx⟩)
  have h1 := hs'.ev hg y
  rw [evO_ok (n := s.n) (bx := s.bx) (rt_ev hy hs)] at h1
  have e1 : a.eval y = u := h1.of_val hp
  have hr : (callFunc f #[u]).run E.P w = .ok (.value v) w := by rw [run_callFunc_extern hf hname hb hn he, hrun]; rfl
  have e3 : (execOp a.eval ⟨some d, .call { callee := .value (.func f), args := #[y], argTypes := ts }, ty, pos, after, none⟩).run E.P w = (callFunc f (#[y].map a.eval)).run E.P w := by
    have hr2 : (callFunc f (#[y].map a.eval)).run E.P w = .ok (.value v) w := by
      have e2 : (#[y].map a.eval : Array Value) = #[u] := by simp [e1]
      rw [e2]; exact hr
    rw [hr2]
    simp only [execOp, resolve, Act.eval, Deferred.ofValue, invoke, Sem.run_bind, Sem.run_pure, Result.andThen_ok]
    rw [show (#[] ++ Array.map a.eval #[y] ++ #[] : Array Value) = Array.map a.eval #[y] by simp]
    exact hr2
  rw [e3]
  have e2 : (#[y].map a.eval : Array Value) = #[u] := by simp [e1]
  rw [e2]
  exact hr
theorem O.ltF {Θ : St → Prop} {t t' : TypeId} {y z : Operand} {m j : Nat} {c : Bool} (hy : evO E tm y = some (.pv (.flt .f64 m))) (hz : evO E tm z = some (.pv (.flt .f64 j))) (hc : (FloatKind.f64.format.order m j == some .lt) = c) (hd : Nat.blt d n = true) (h : Ops E.P E.g ops l ⟨n, (d, .pv (.bool c)) :: tm, bx⟩ Θ) :
    Ops E.P E.g ops (⟨some d, .binOp .lss t y z t', ty, pos, after, none⟩ :: l) ⟨n, tm, bx⟩ Θ := by
  subst hc
  exact O.bin (v := .bool (FloatKind.f64.format.order m j == some .lt)) hy hz rfl rfl (now_flt rfl) rfl hd h
theorem O.gtF {Θ : St → Prop} {t t' : TypeId} {y z : Operand} {m j : Nat} {c : Bool} (hy : evO E tm y = some (.pv (.flt .f64 m))) (hz : evO E tm z = some (.pv (.flt .f64 j))) (hc : (FloatKind.f64.format.order m j == some .gt) = c) (hd : Nat.blt d n = true) (h : Ops E.P E.g ops l ⟨n, (d, .pv (.bool c)) :: tm, bx⟩ Θ) :
    Ops E.P E.g ops (⟨some d, .binOp .gtr t y z t', ty, pos, after, none⟩ :: l) ⟨n, tm, bx⟩ Θ := by
  subst hc
  exact O.bin (v := .bool (FloatKind.f64.format.order m j == some .gt)) hy hz rfl rfl (now_flt rfl) rfl hd h
theorem D.strLt {Θ : List Rec → St → Prop} {t t' : TypeId} {y z : Operand} {s s' : ByteArray} {c : Bool} (hy : evO E tm y = some (.pv (.str s))) (hz : evO E tm z = some (.pv (.str s'))) (hc : Op.bytesLess s.toList s'.toList = c) (hd : Nat.blt d n = true) (h : Dr E.P E.g ops l ⟨n, (d, .pv (.bool c)) :: tm, bx⟩ (fun rs => Θ (⟨rtOf y (.pv (.str s)) ++ rtOf z (.pv (.str s')), [], [], some d, .pv (.bool c), []⟩ :: rs))) :
    Dr E.P E.g ops (⟨some d, .binOp .lss t y z t', ty, pos, after, none⟩ :: l) ⟨n, tm, bx⟩ Θ := by
  subst hc
  exact D.bin (v := .bool (Op.bytesLess s.toList s'.toList)) hy hz rfl rfl rfl rfl hd h
theorem D.strGt {Θ : List Rec → St → Prop} {t t' : TypeId} {y z : Operand} {s s' : ByteArray} {c : Bool} (hy : evO E tm y = some (.pv (.str s))) (hz : evO E tm z = some (.pv (.str s'))) (hc : (!(Op.bytesLess s.toList s'.toList || s.toList == s'.toList)) = c) (hd : Nat.blt d n = true) (h : Dr E.P E.g ops l ⟨n, (d, .pv (.bool c)) :: tm, bx⟩ (fun rs => Θ (⟨rtOf y (.pv (.str s)) ++ rtOf z (.pv (.str s')), [], [], some d, .pv (.bool c), []⟩ :: rs))) :
    Dr E.P E.g ops (⟨some d, .binOp .gtr t y z t', ty, pos, after, none⟩ :: l) ⟨n, tm, bx⟩ Θ := by
  subst hc
  exact D.bin (v := .bool (!(Op.bytesLess s.toList s'.toList || s.toList == s'.toList))) hy hz rfl rfl rfl rfl hd h
end
variable {g : Nat → Option (List PV)}
theorem fnOrdV (v w : Vl) : FnC (En Tryd.prog g) 105 [vlA v, vlA w] (.pv (.int .i64 (ordV v w))) [] := by
  have hE := EnOk g
  unfold ordV
  obtain ⟨L, hL⟩ : ∃ L, lessB v w = L := ⟨_, rfl⟩
  obtain ⟨M, hM⟩ : ∃ M, moreB v w = M := ⟨_, rfl⟩
  rw [hL, hM]
  obtain ⟨k, n, b, s⟩ := v
  obtain ⟨k', n', b', s'⟩ := w
  unfold lessB at hL
  unfold moreB at hM
  dsimp only at hL hM
  dsimp only [vlA]
  by_cases hk : k = k'
  ·
    subst hk
    rw [if_pos rfl] at hL hM
    by_cases h3 : k = 3
    ·
      subst h3
      rw [if_pos rfl] at hL hM
      refine FnC.of Tryd.func105 rfl rfl rfl rfl ?_
      repeat (first | refine Run.seq ?_ | refine Run.skip ?_ | refine Run.block ?_)
      refine Run.region ?_
      refine O.box 2 rfl (by first | rfl | exact cells_ones (by simp [ones_app, ones_ints, ones, AV.one, PV.one])) rfl rfl ?_
      refine O.box 3 rfl (by first | rfl | exact cells_ones (by simp [ones_app, ones_ints, ones, AV.one, PV.one])) rfl rfl ?_
      refine O.assign rfl rfl ?_
      refine O.nil ?_
      try refine Run.keep [0,1,2,3,4,5,6,7,8,19,35,51,65,66] rfl rfl ?_
      repeat (first | refine Run.seq ?_ | refine Run.skip ?_ | refine Run.block ?_)
      refine Run.region ?_
      refine O.assign rfl rfl ?_
      refine O.assign rfl rfl ?_
      refine O.nil ?_
      try refine Run.keep [0,1,2,3,4,5,6,7,8,19,35,51,65,66] rfl rfl ?_
      repeat (first | refine Run.seq ?_ | refine Run.skip ?_ | refine Run.block ?_)
      refine Run.region ?_
      refine O.field hE L25 rfl rfl rfl rfl ?_
      first | refine O.loadS hE T3 rfl rfl rfl (by rfl) rfl ?_ | refine O.loadE hE T3 rfl rfl (by rfl) rfl ?_ | refine O.load hE T3 rfl rfl rfl rfl ?_
      refine O.field hE L25 rfl rfl rfl rfl ?_
      first | refine O.loadS hE T3 rfl rfl rfl (by rfl) rfl ?_ | refine O.loadE hE T3 rfl rfl (by rfl) rfl ?_ | refine O.load hE T3 rfl rfl rfl rfl ?_
      first | refine O.cmp rfl rfl rfl (by first | exact dT (by omega) | exact dF (by omega)) rfl ?_ | refine O.cmp rfl rfl rfl rfl rfl ?_
      refine O.assign rfl rfl ?_
      refine O.nil ?_
      try refine Run.keep [0,1,2,3,4,5,6,7,8,19,35,51,65,66] rfl rfl ?_
      repeat (first | refine Run.seq ?_ | refine Run.skip ?_)
      first | refine Run.condT rfl rfl ?_ | refine Run.condF rfl rfl ?_ | refine Run.condT rfl (by assumption) ?_ | refine Run.condF rfl (by assumption) ?_
      repeat (first | refine Run.seq ?_ | refine Run.skip ?_ | refine Run.block ?_)
      refine Run.region ?_
      refine O.field hE L25 rfl rfl rfl rfl ?_
      first | refine O.loadS hE T3 rfl rfl rfl (by rfl) rfl ?_ | refine O.loadE hE T3 rfl rfl (by rfl) rfl ?_ | refine O.load hE T3 rfl rfl rfl rfl ?_
      first | refine O.cmp rfl rfl rfl (by first | exact dT (by omega) | exact dF (by omega)) rfl ?_ | refine O.cmp rfl rfl rfl rfl rfl ?_
      refine O.assign rfl rfl ?_
      refine O.nil ?_
      try refine Run.keep [0,1,2,3,4,5,6,7,8,19,35,51,65,66] rfl rfl ?_
      repeat (first | refine Run.seq ?_ | refine Run.skip ?_)
      first | refine Run.condT rfl rfl ?_ | refine Run.condF rfl rfl ?_ | refine Run.condT rfl (by assumption) ?_ | refine Run.condF rfl (by assumption) ?_
      repeat (first | refine Run.seq ?_ | refine Run.skip ?_ | refine Run.block ?_)
      refine Run.draw mixed rfl ?_
      refine D.field hE L25 rfl rfl rfl rfl ?_
      first | refine D.loadS hE T23 rfl rfl rfl (by rfl) rfl ?_ | refine D.loadE hE T23 rfl rfl (by rfl) rfl ?_ | refine D.load hE T23 rfl rfl rfl rfl ?_
      refine D.extern (e := Extern.MathFloatBits.float64frombits) (v := .float .f64 b.toNat) Tryd.func60 (by kernel_rfl) (by kernel_rfl) (by kernel_rfl) (by kernel_rfl) rfl rfl (fun _ => rfl) rfl rfl ?_
      refine D.field hE L25 rfl rfl rfl rfl ?_
      first | refine D.loadS hE T23 rfl rfl rfl (by rfl) rfl ?_ | refine D.loadE hE T23 rfl rfl (by rfl) rfl ?_ | refine D.load hE T23 rfl rfl rfl rfl ?_
      refine D.extern (e := Extern.MathFloatBits.float64frombits) (v := .float .f64 b'.toNat) Tryd.func60 (by kernel_rfl) (by kernel_rfl) (by kernel_rfl) (by kernel_rfl) rfl rfl (fun _ => rfl) rfl rfl ?_
      refine D.assign rfl rfl ?_
      refine D.assign rfl rfl ?_
      refine Dr.nil ?_
      refine ⟨rfl, ?_⟩
      try refine Run.keep [0,1,2,3,4,5,6,7,8,19,35,51,65,66] rfl rfl ?_
      repeat (first | refine Run.seq ?_ | refine Run.skip ?_ | refine Run.block ?_)
      refine Run.region ?_
      refine O.move rfl rfl ?_
      refine O.move rfl rfl ?_
      refine O.ltF rfl rfl hL rfl ?_
      refine O.move rfl rfl ?_
      refine O.move rfl rfl ?_
      refine O.gtF rfl rfl hM rfl ?_
      refine O.assign rfl rfl ?_
      refine O.assign rfl rfl ?_
      refine O.nil ?_
      try refine Run.keep [0,1,2,3,4,5,6,7,8,19,35,51,65,66] rfl rfl ?_
      repeat (first | refine Run.seq ?_ | refine Run.skip ?_ | refine Run.block ?_)
      refine Run.region ?_
      refine O.move rfl rfl ?_
      refine O.nil ?_
      try refine Run.keep [0,1,2,3,4,5,6,7,8,19,35,51,65,66] rfl rfl ?_
      cases L with
      | true =>
        repeat (first | refine Run.seq ?_ | refine Run.skip ?_)
        first | refine Run.condT rfl rfl ?_ | refine Run.condF rfl rfl ?_ | refine Run.condT rfl (by assumption) ?_ | refine Run.condF rfl (by assumption) ?_
        repeat (first | refine Run.seq ?_ | refine Run.skip ?_ | refine Run.block ?_)
        refine Run.region ?_
        refine O.assign rfl rfl ?_
        refine O.nil ?_
        try refine Run.keep [0,1,2,3,4,5,6,7,8,19,35,51,65,66] rfl rfl ?_
        refine Run.ret ?_
        (repeat (first | refine Run.seq ?_ | refine Run.skip ?_)); (try refine Run.ret ?_); first | exact Ends.flat hE (.inr rfl) rfl rfl (AVle.of_eq rfl) rfl | exact Ends.flat hE (.inl rfl) rfl rfl (AVle.of_eq rfl) rfl
      | false =>
        repeat (first | refine Run.seq ?_ | refine Run.skip ?_)
        first | refine Run.condT rfl rfl ?_ | refine Run.condF rfl rfl ?_ | refine Run.condT rfl (by assumption) ?_ | refine Run.condF rfl (by assumption) ?_
        repeat (first | refine Run.seq ?_ | refine Run.skip ?_ | refine Run.block ?_)
        refine Run.region ?_
        refine O.move rfl rfl ?_
        refine O.nil ?_
        try refine Run.keep [0,1,2,3,4,5,6,7,8,19,35,51,65,66] rfl rfl ?_
        cases M with
        | true =>
          repeat (first | refine Run.seq ?_ | refine Run.skip ?_)
          first | refine Run.condT rfl rfl ?_ | refine Run.condF rfl rfl ?_ | refine Run.condT rfl (by assumption) ?_ | refine Run.condF rfl (by assumption) ?_
          repeat (first | refine Run.seq ?_ | refine Run.skip ?_ | refine Run.block ?_)
          refine Run.region ?_
          refine O.assign rfl rfl ?_
          refine O.nil ?_
          try refine Run.keep [0,1,2,3,4,5,6,7,8,19,35,51,65,66] rfl rfl ?_
          refine Run.ret ?_
          (repeat (first | refine Run.seq ?_ | refine Run.skip ?_)); (try refine Run.ret ?_); first | exact Ends.flat hE (.inr rfl) rfl rfl (AVle.of_eq rfl) rfl | exact Ends.flat hE (.inl rfl) rfl rfl (AVle.of_eq rfl) rfl
        | false =>
          repeat (first | refine Run.seq ?_ | refine Run.skip ?_)
          first | refine Run.condT rfl rfl ?_ | refine Run.condF rfl rfl ?_ | refine Run.condT rfl (by assumption) ?_ | refine Run.condF rfl (by assumption) ?_
          repeat (first | refine Run.seq ?_ | refine Run.skip ?_ | refine Run.block ?_)
          refine Run.region ?_
          refine O.assign rfl rfl ?_
          refine O.nil ?_
          try refine Run.keep [0,1,2,3,4,5,6,7,8,19,35,51,65,66] rfl rfl ?_
          (repeat (first | refine Run.seq ?_ | refine Run.skip ?_)); (try refine Run.ret ?_); first | exact Ends.flat hE (.inr rfl) rfl rfl (AVle.of_eq rfl) rfl | exact Ends.flat hE (.inl rfl) rfl rfl (AVle.of_eq rfl) rfl
    rw [if_neg h3] at hL hM
    by_cases h4 : k = 4
    ·
      subst h4
      rw [if_pos rfl] at hL hM
      refine FnC.of Tryd.func105 rfl rfl rfl rfl ?_
      repeat (first | refine Run.seq ?_ | refine Run.skip ?_ | refine Run.block ?_)
      refine Run.region ?_
      refine O.box 2 rfl (by first | rfl | exact cells_ones (by simp [ones_app, ones_ints, ones, AV.one, PV.one])) rfl rfl ?_
      refine O.box 3 rfl (by first | rfl | exact cells_ones (by simp [ones_app, ones_ints, ones, AV.one, PV.one])) rfl rfl ?_
      refine O.assign rfl rfl ?_
      refine O.nil ?_
      try refine Run.keep [0,1,2,3,4,5,6,7,8,19,35,51,65,66] rfl rfl ?_
      repeat (first | refine Run.seq ?_ | refine Run.skip ?_ | refine Run.block ?_)
      refine Run.region ?_
      refine O.assign rfl rfl ?_
      refine O.assign rfl rfl ?_
      refine O.nil ?_
      try refine Run.keep [0,1,2,3,4,5,6,7,8,19,35,51,65,66] rfl rfl ?_
      repeat (first | refine Run.seq ?_ | refine Run.skip ?_ | refine Run.block ?_)
      refine Run.region ?_
      refine O.field hE L25 rfl rfl rfl rfl ?_
      first | refine O.loadS hE T3 rfl rfl rfl (by rfl) rfl ?_ | refine O.loadE hE T3 rfl rfl (by rfl) rfl ?_ | refine O.load hE T3 rfl rfl rfl rfl ?_
      refine O.field hE L25 rfl rfl rfl rfl ?_
      first | refine O.loadS hE T3 rfl rfl rfl (by rfl) rfl ?_ | refine O.loadE hE T3 rfl rfl (by rfl) rfl ?_ | refine O.load hE T3 rfl rfl rfl rfl ?_
      first | refine O.cmp rfl rfl rfl (by first | exact dT (by omega) | exact dF (by omega)) rfl ?_ | refine O.cmp rfl rfl rfl rfl rfl ?_
      refine O.assign rfl rfl ?_
      refine O.nil ?_
      try refine Run.keep [0,1,2,3,4,5,6,7,8,19,35,51,65,66] rfl rfl ?_
      repeat (first | refine Run.seq ?_ | refine Run.skip ?_)
      first | refine Run.condT rfl rfl ?_ | refine Run.condF rfl rfl ?_ | refine Run.condT rfl (by assumption) ?_ | refine Run.condF rfl (by assumption) ?_
      repeat (first | refine Run.seq ?_ | refine Run.skip ?_ | refine Run.block ?_)
      refine Run.region ?_
      refine O.field hE L25 rfl rfl rfl rfl ?_
      first | refine O.loadS hE T3 rfl rfl rfl (by rfl) rfl ?_ | refine O.loadE hE T3 rfl rfl (by rfl) rfl ?_ | refine O.load hE T3 rfl rfl rfl rfl ?_
      first | refine O.cmp rfl rfl rfl (by first | exact dT (by omega) | exact dF (by omega)) rfl ?_ | refine O.cmp rfl rfl rfl rfl rfl ?_
      refine O.assign rfl rfl ?_
      refine O.nil ?_
      try refine Run.keep [0,1,2,3,4,5,6,7,8,19,35,51,65,66] rfl rfl ?_
      repeat (first | refine Run.seq ?_ | refine Run.skip ?_)
      first | refine Run.condT rfl rfl ?_ | refine Run.condF rfl rfl ?_ | refine Run.condT rfl (by assumption) ?_ | refine Run.condF rfl (by assumption) ?_
      repeat (first | refine Run.seq ?_ | refine Run.skip ?_ | refine Run.block ?_)
      refine Run.region ?_
      refine O.field hE L25 rfl rfl rfl rfl ?_
      first | refine O.loadS hE T3 rfl rfl rfl (by rfl) rfl ?_ | refine O.loadE hE T3 rfl rfl (by rfl) rfl ?_ | refine O.load hE T3 rfl rfl rfl rfl ?_
      first | refine O.cmp rfl rfl rfl (by first | exact dT (by omega) | exact dF (by omega)) rfl ?_ | refine O.cmp rfl rfl rfl rfl rfl ?_
      refine O.assign rfl rfl ?_
      refine O.nil ?_
      try refine Run.keep [0,1,2,3,4,5,6,7,8,19,35,51,65,66] rfl rfl ?_
      repeat (first | refine Run.seq ?_ | refine Run.skip ?_)
      first | refine Run.condT rfl rfl ?_ | refine Run.condF rfl rfl ?_ | refine Run.condT rfl (by assumption) ?_ | refine Run.condF rfl (by assumption) ?_
      repeat (first | refine Run.seq ?_ | refine Run.skip ?_ | refine Run.block ?_)
      refine Run.draw mixed rfl ?_
      refine D.field hE L25 rfl rfl rfl rfl ?_
      first | refine D.loadS hE T9 rfl rfl rfl (by rfl) rfl ?_ | refine D.loadE hE T9 rfl rfl (by rfl) rfl ?_ | refine D.load hE T9 rfl rfl rfl rfl ?_
      refine D.field hE L25 rfl rfl rfl rfl ?_
      first | refine D.loadS hE T9 rfl rfl rfl (by rfl) rfl ?_ | refine D.loadE hE T9 rfl rfl (by rfl) rfl ?_ | refine D.load hE T9 rfl rfl rfl rfl ?_
      refine D.strLt rfl rfl hL rfl ?_
      refine D.field hE L25 rfl rfl rfl rfl ?_
      first | refine D.loadS hE T9 rfl rfl rfl (by rfl) rfl ?_ | refine D.loadE hE T9 rfl rfl (by rfl) rfl ?_ | refine D.load hE T9 rfl rfl rfl rfl ?_
      refine D.field hE L25 rfl rfl rfl rfl ?_
      first | refine D.loadS hE T9 rfl rfl rfl (by rfl) rfl ?_ | refine D.loadE hE T9 rfl rfl (by rfl) rfl ?_ | refine D.load hE T9 rfl rfl rfl rfl ?_
      refine D.strGt rfl rfl hM rfl ?_
      refine D.assign rfl rfl ?_
      refine D.assign rfl rfl ?_
      refine Dr.nil ?_
      refine ⟨rfl, ?_⟩
      try refine Run.keep [0,1,2,3,4,5,6,7,8,19,35,51,65,66] rfl rfl ?_
      repeat (first | refine Run.seq ?_ | refine Run.skip ?_ | refine Run.block ?_)
      refine Run.region ?_
      refine O.move rfl rfl ?_
      refine O.nil ?_
      try refine Run.keep [0,1,2,3,4,5,6,7,8,19,35,51,65,66] rfl rfl ?_
      cases L with
      | true =>
        repeat (first | refine Run.seq ?_ | refine Run.skip ?_)
        first | refine Run.condT rfl rfl ?_ | refine Run.condF rfl rfl ?_ | refine Run.condT rfl (by assumption) ?_ | refine Run.condF rfl (by assumption) ?_
        repeat (first | refine Run.seq ?_ | refine Run.skip ?_ | refine Run.block ?_)
        refine Run.region ?_
        refine O.assign rfl rfl ?_
        refine O.nil ?_
        try refine Run.keep [0,1,2,3,4,5,6,7,8,19,35,51,65,66] rfl rfl ?_
        refine Run.ret ?_
        (repeat (first | refine Run.seq ?_ | refine Run.skip ?_)); (try refine Run.ret ?_); first | exact Ends.flat hE (.inr rfl) rfl rfl (AVle.of_eq rfl) rfl | exact Ends.flat hE (.inl rfl) rfl rfl (AVle.of_eq rfl) rfl
      | false =>
        repeat (first | refine Run.seq ?_ | refine Run.skip ?_)
        first | refine Run.condT rfl rfl ?_ | refine Run.condF rfl rfl ?_ | refine Run.condT rfl (by assumption) ?_ | refine Run.condF rfl (by assumption) ?_
        repeat (first | refine Run.seq ?_ | refine Run.skip ?_ | refine Run.block ?_)
        refine Run.region ?_
        refine O.move rfl rfl ?_
        refine O.nil ?_
        try refine Run.keep [0,1,2,3,4,5,6,7,8,19,35,51,65,66] rfl rfl ?_
        cases M with
        | true =>
          repeat (first | refine Run.seq ?_ | refine Run.skip ?_)
          first | refine Run.condT rfl rfl ?_ | refine Run.condF rfl rfl ?_ | refine Run.condT rfl (by assumption) ?_ | refine Run.condF rfl (by assumption) ?_
          repeat (first | refine Run.seq ?_ | refine Run.skip ?_ | refine Run.block ?_)
          refine Run.region ?_
          refine O.assign rfl rfl ?_
          refine O.nil ?_
          try refine Run.keep [0,1,2,3,4,5,6,7,8,19,35,51,65,66] rfl rfl ?_
          refine Run.ret ?_
          (repeat (first | refine Run.seq ?_ | refine Run.skip ?_)); (try refine Run.ret ?_); first | exact Ends.flat hE (.inr rfl) rfl rfl (AVle.of_eq rfl) rfl | exact Ends.flat hE (.inl rfl) rfl rfl (AVle.of_eq rfl) rfl
        | false =>
          repeat (first | refine Run.seq ?_ | refine Run.skip ?_)
          first | refine Run.condT rfl rfl ?_ | refine Run.condF rfl rfl ?_ | refine Run.condT rfl (by assumption) ?_ | refine Run.condF rfl (by assumption) ?_
          repeat (first | refine Run.seq ?_ | refine Run.skip ?_ | refine Run.block ?_)
          refine Run.region ?_
          refine O.assign rfl rfl ?_
          refine O.nil ?_
          try refine Run.keep [0,1,2,3,4,5,6,7,8,19,35,51,65,66] rfl rfl ?_
          (repeat (first | refine Run.seq ?_ | refine Run.skip ?_)); (try refine Run.ret ?_); first | exact Ends.flat hE (.inr rfl) rfl rfl (AVle.of_eq rfl) rfl | exact Ends.flat hE (.inl rfl) rfl rfl (AVle.of_eq rfl) rfl
    rw [if_neg h4] at hL hM
    refine FnC.of Tryd.func105 rfl rfl rfl rfl ?_
    repeat (first | refine Run.seq ?_ | refine Run.skip ?_ | refine Run.block ?_)
    refine Run.region ?_
    refine O.box 2 rfl (by first | rfl | exact cells_ones (by simp [ones_app, ones_ints, ones, AV.one, PV.one])) rfl rfl ?_
    refine O.box 3 rfl (by first | rfl | exact cells_ones (by simp [ones_app, ones_ints, ones, AV.one, PV.one])) rfl rfl ?_
    refine O.assign rfl rfl ?_
    refine O.nil ?_
    try refine Run.keep [0,1,2,3,4,5,6,7,8,19,35,51,65,66] rfl rfl ?_
    repeat (first | refine Run.seq ?_ | refine Run.skip ?_ | refine Run.block ?_)
    refine Run.region ?_
    refine O.assign rfl rfl ?_
    refine O.assign rfl rfl ?_
    refine O.nil ?_
    try refine Run.keep [0,1,2,3,4,5,6,7,8,19,35,51,65,66] rfl rfl ?_
    repeat (first | refine Run.seq ?_ | refine Run.skip ?_ | refine Run.block ?_)
    refine Run.region ?_
    refine O.field hE L25 rfl rfl rfl rfl ?_
    first | refine O.loadS hE T3 rfl rfl rfl (by rfl) rfl ?_ | refine O.loadE hE T3 rfl rfl (by rfl) rfl ?_ | refine O.load hE T3 rfl rfl rfl rfl ?_
    refine O.field hE L25 rfl rfl rfl rfl ?_
    first | refine O.loadS hE T3 rfl rfl rfl (by rfl) rfl ?_ | refine O.loadE hE T3 rfl rfl (by rfl) rfl ?_ | refine O.load hE T3 rfl rfl rfl rfl ?_
    refine O.cmp (c' := false) rfl rfl rfl (by simp) rfl ?_
    refine O.assign rfl rfl ?_
    refine O.nil ?_
    try refine Run.keep [0,1,2,3,4,5,6,7,8,19,35,51,65,66] rfl rfl ?_
    repeat (first | refine Run.seq ?_ | refine Run.skip ?_)
    first | refine Run.condT rfl rfl ?_ | refine Run.condF rfl rfl ?_ | refine Run.condT rfl (by assumption) ?_ | refine Run.condF rfl (by assumption) ?_
    repeat (first | refine Run.seq ?_ | refine Run.skip ?_ | refine Run.block ?_)
    refine Run.region ?_
    refine O.field hE L25 rfl rfl rfl rfl ?_
    first | refine O.loadS hE T3 rfl rfl rfl (by rfl) rfl ?_ | refine O.loadE hE T3 rfl rfl (by rfl) rfl ?_ | refine O.load hE T3 rfl rfl rfl rfl ?_
    refine O.cmp (c' := false) rfl rfl rfl (by simpa using h3) rfl ?_
    refine O.assign rfl rfl ?_
    refine O.nil ?_
    try refine Run.keep [0,1,2,3,4,5,6,7,8,19,35,51,65,66] rfl rfl ?_
    repeat (first | refine Run.seq ?_ | refine Run.skip ?_)
    first | refine Run.condT rfl rfl ?_ | refine Run.condF rfl rfl ?_ | refine Run.condT rfl (by assumption) ?_ | refine Run.condF rfl (by assumption) ?_
    repeat (first | refine Run.seq ?_ | refine Run.skip ?_ | refine Run.block ?_)
    refine Run.region ?_
    refine O.field hE L25 rfl rfl rfl rfl ?_
    first | refine O.loadS hE T3 rfl rfl rfl (by rfl) rfl ?_ | refine O.loadE hE T3 rfl rfl (by rfl) rfl ?_ | refine O.load hE T3 rfl rfl rfl rfl ?_
    refine O.cmp (c' := false) rfl rfl rfl (by simpa using h4) rfl ?_
    refine O.assign rfl rfl ?_
    refine O.nil ?_
    try refine Run.keep [0,1,2,3,4,5,6,7,8,19,35,51,65,66] rfl rfl ?_
    repeat (first | refine Run.seq ?_ | refine Run.skip ?_)
    first | refine Run.condT rfl rfl ?_ | refine Run.condF rfl rfl ?_ | refine Run.condT rfl (by assumption) ?_ | refine Run.condF rfl (by assumption) ?_
    repeat (first | refine Run.seq ?_ | refine Run.skip ?_ | refine Run.block ?_)
    refine Run.draw mixed rfl ?_
    refine D.field hE L25 rfl rfl rfl rfl ?_
    first | refine D.loadS hE T3 rfl rfl rfl (by rfl) rfl ?_ | refine D.loadE hE T3 rfl rfl (by rfl) rfl ?_ | refine D.load hE T3 rfl rfl rfl rfl ?_
    refine D.field hE L25 rfl rfl rfl rfl ?_
    first | refine D.loadS hE T3 rfl rfl rfl (by rfl) rfl ?_ | refine D.loadE hE T3 rfl rfl (by rfl) rfl ?_ | refine D.load hE T3 rfl rfl rfl rfl ?_
    refine D.cmp rfl rfl rfl hL rfl ?_
    refine D.field hE L25 rfl rfl rfl rfl ?_
    first | refine D.loadS hE T3 rfl rfl rfl (by rfl) rfl ?_ | refine D.loadE hE T3 rfl rfl (by rfl) rfl ?_ | refine D.load hE T3 rfl rfl rfl rfl ?_
    refine D.field hE L25 rfl rfl rfl rfl ?_
    first | refine D.loadS hE T3 rfl rfl rfl (by rfl) rfl ?_ | refine D.loadE hE T3 rfl rfl (by rfl) rfl ?_ | refine D.load hE T3 rfl rfl rfl rfl ?_
    refine D.cmp rfl rfl rfl hM rfl ?_
    refine D.assign rfl rfl ?_
    refine D.assign rfl rfl ?_
    refine Dr.nil ?_
    refine ⟨rfl, ?_⟩
    try refine Run.keep [0,1,2,3,4,5,6,7,8,19,35,51,65,66] rfl rfl ?_
    repeat (first | refine Run.seq ?_ | refine Run.skip ?_ | refine Run.block ?_)
    refine Run.region ?_
    refine O.move rfl rfl ?_
    refine O.nil ?_
    try refine Run.keep [0,1,2,3,4,5,6,7,8,19,35,51,65,66] rfl rfl ?_
    cases L with
    | true =>
      repeat (first | refine Run.seq ?_ | refine Run.skip ?_)
      first | refine Run.condT rfl rfl ?_ | refine Run.condF rfl rfl ?_ | refine Run.condT rfl (by assumption) ?_ | refine Run.condF rfl (by assumption) ?_
      repeat (first | refine Run.seq ?_ | refine Run.skip ?_ | refine Run.block ?_)
      refine Run.region ?_
      refine O.assign rfl rfl ?_
      refine O.nil ?_
      try refine Run.keep [0,1,2,3,4,5,6,7,8,19,35,51,65,66] rfl rfl ?_
      refine Run.ret ?_
      (repeat (first | refine Run.seq ?_ | refine Run.skip ?_)); (try refine Run.ret ?_); first | exact Ends.flat hE (.inr rfl) rfl rfl (AVle.of_eq rfl) rfl | exact Ends.flat hE (.inl rfl) rfl rfl (AVle.of_eq rfl) rfl
    | false =>
      repeat (first | refine Run.seq ?_ | refine Run.skip ?_)
      first | refine Run.condT rfl rfl ?_ | refine Run.condF rfl rfl ?_ | refine Run.condT rfl (by assumption) ?_ | refine Run.condF rfl (by assumption) ?_
      repeat (first | refine Run.seq ?_ | refine Run.skip ?_ | refine Run.block ?_)
      refine Run.region ?_
      refine O.move rfl rfl ?_
      refine O.nil ?_
      try refine Run.keep [0,1,2,3,4,5,6,7,8,19,35,51,65,66] rfl rfl ?_
      cases M with
      | true =>
        repeat (first | refine Run.seq ?_ | refine Run.skip ?_)
        first | refine Run.condT rfl rfl ?_ | refine Run.condF rfl rfl ?_ | refine Run.condT rfl (by assumption) ?_ | refine Run.condF rfl (by assumption) ?_
        repeat (first | refine Run.seq ?_ | refine Run.skip ?_ | refine Run.block ?_)
        refine Run.region ?_
        refine O.assign rfl rfl ?_
        refine O.nil ?_
        try refine Run.keep [0,1,2,3,4,5,6,7,8,19,35,51,65,66] rfl rfl ?_
        refine Run.ret ?_
        (repeat (first | refine Run.seq ?_ | refine Run.skip ?_)); (try refine Run.ret ?_); first | exact Ends.flat hE (.inr rfl) rfl rfl (AVle.of_eq rfl) rfl | exact Ends.flat hE (.inl rfl) rfl rfl (AVle.of_eq rfl) rfl
      | false =>
        repeat (first | refine Run.seq ?_ | refine Run.skip ?_)
        first | refine Run.condT rfl rfl ?_ | refine Run.condF rfl rfl ?_ | refine Run.condT rfl (by assumption) ?_ | refine Run.condF rfl (by assumption) ?_
        repeat (first | refine Run.seq ?_ | refine Run.skip ?_ | refine Run.block ?_)
        refine Run.region ?_
        refine O.assign rfl rfl ?_
        refine O.nil ?_
        try refine Run.keep [0,1,2,3,4,5,6,7,8,19,35,51,65,66] rfl rfl ?_
        (repeat (first | refine Run.seq ?_ | refine Run.skip ?_)); (try refine Run.ret ?_); first | exact Ends.flat hE (.inr rfl) rfl rfl (AVle.of_eq rfl) rfl | exact Ends.flat hE (.inl rfl) rfl rfl (AVle.of_eq rfl) rfl
  ·
    rw [if_neg hk] at hL hM
    refine FnC.of Tryd.func105 rfl rfl rfl rfl ?_
    repeat (first | refine Run.seq ?_ | refine Run.skip ?_ | refine Run.block ?_)
    refine Run.region ?_
    refine O.box 2 rfl (by first | rfl | exact cells_ones (by simp [ones_app, ones_ints, ones, AV.one, PV.one])) rfl rfl ?_
    refine O.box 3 rfl (by first | rfl | exact cells_ones (by simp [ones_app, ones_ints, ones, AV.one, PV.one])) rfl rfl ?_
    refine O.assign rfl rfl ?_
    refine O.nil ?_
    try refine Run.keep [0,1,2,3,4,5,6,7,8,19,35,51,65,66] rfl rfl ?_
    repeat (first | refine Run.seq ?_ | refine Run.skip ?_ | refine Run.block ?_)
    refine Run.region ?_
    refine O.assign rfl rfl ?_
    refine O.assign rfl rfl ?_
    refine O.nil ?_
    try refine Run.keep [0,1,2,3,4,5,6,7,8,19,35,51,65,66] rfl rfl ?_
    repeat (first | refine Run.seq ?_ | refine Run.skip ?_ | refine Run.block ?_)
    refine Run.region ?_
    refine O.field hE L25 rfl rfl rfl rfl ?_
    first | refine O.loadS hE T3 rfl rfl rfl (by rfl) rfl ?_ | refine O.loadE hE T3 rfl rfl (by rfl) rfl ?_ | refine O.load hE T3 rfl rfl rfl rfl ?_
    refine O.field hE L25 rfl rfl rfl rfl ?_
    first | refine O.loadS hE T3 rfl rfl rfl (by rfl) rfl ?_ | refine O.loadE hE T3 rfl rfl (by rfl) rfl ?_ | refine O.load hE T3 rfl rfl rfl rfl ?_
    refine O.cmp (c' := true) rfl rfl rfl (by simpa using hk) rfl ?_
    refine O.assign rfl rfl ?_
    refine O.nil ?_
    try refine Run.keep [0,1,2,3,4,5,6,7,8,19,35,51,65,66] rfl rfl ?_
    repeat (first | refine Run.seq ?_ | refine Run.skip ?_)
    first | refine Run.condT rfl rfl ?_ | refine Run.condF rfl rfl ?_ | refine Run.condT rfl (by assumption) ?_ | refine Run.condF rfl (by assumption) ?_
    repeat (first | refine Run.seq ?_ | refine Run.skip ?_ | refine Run.block ?_)
    refine Run.draw mixed rfl ?_
    refine D.field hE L25 rfl rfl rfl rfl ?_
    first | refine D.loadS hE T3 rfl rfl rfl (by rfl) rfl ?_ | refine D.loadE hE T3 rfl rfl (by rfl) rfl ?_ | refine D.load hE T3 rfl rfl rfl rfl ?_
    refine D.field hE L25 rfl rfl rfl rfl ?_
    first | refine D.loadS hE T3 rfl rfl rfl (by rfl) rfl ?_ | refine D.loadE hE T3 rfl rfl (by rfl) rfl ?_ | refine D.load hE T3 rfl rfl rfl rfl ?_
    refine D.cmp rfl rfl rfl hL rfl ?_
    refine D.field hE L25 rfl rfl rfl rfl ?_
    first | refine D.loadS hE T3 rfl rfl rfl (by rfl) rfl ?_ | refine D.loadE hE T3 rfl rfl (by rfl) rfl ?_ | refine D.load hE T3 rfl rfl rfl rfl ?_
    refine D.field hE L25 rfl rfl rfl rfl ?_
    first | refine D.loadS hE T3 rfl rfl rfl (by rfl) rfl ?_ | refine D.loadE hE T3 rfl rfl (by rfl) rfl ?_ | refine D.load hE T3 rfl rfl rfl rfl ?_
    refine D.cmp rfl rfl rfl hM rfl ?_
    refine D.assign rfl rfl ?_
    refine D.assign rfl rfl ?_
    refine Dr.nil ?_
    refine ⟨rfl, ?_⟩
    try refine Run.keep [0,1,2,3,4,5,6,7,8,19,35,51,65,66] rfl rfl ?_
    repeat (first | refine Run.seq ?_ | refine Run.skip ?_ | refine Run.block ?_)
    refine Run.region ?_
    refine O.move rfl rfl ?_
    refine O.nil ?_
    try refine Run.keep [0,1,2,3,4,5,6,7,8,19,35,51,65,66] rfl rfl ?_
    cases L with
    | true =>
      repeat (first | refine Run.seq ?_ | refine Run.skip ?_)
      first | refine Run.condT rfl rfl ?_ | refine Run.condF rfl rfl ?_ | refine Run.condT rfl (by assumption) ?_ | refine Run.condF rfl (by assumption) ?_
      repeat (first | refine Run.seq ?_ | refine Run.skip ?_ | refine Run.block ?_)
      refine Run.region ?_
      refine O.assign rfl rfl ?_
      refine O.nil ?_
      try refine Run.keep [0,1,2,3,4,5,6,7,8,19,35,51,65,66] rfl rfl ?_
      refine Run.ret ?_
      (repeat (first | refine Run.seq ?_ | refine Run.skip ?_)); (try refine Run.ret ?_); first | exact Ends.flat hE (.inr rfl) rfl rfl (AVle.of_eq rfl) rfl | exact Ends.flat hE (.inl rfl) rfl rfl (AVle.of_eq rfl) rfl
    | false =>
      repeat (first | refine Run.seq ?_ | refine Run.skip ?_)
      first | refine Run.condT rfl rfl ?_ | refine Run.condF rfl rfl ?_ | refine Run.condT rfl (by assumption) ?_ | refine Run.condF rfl (by assumption) ?_
      repeat (first | refine Run.seq ?_ | refine Run.skip ?_ | refine Run.block ?_)
      refine Run.region ?_
      refine O.move rfl rfl ?_
      refine O.nil ?_
      try refine Run.keep [0,1,2,3,4,5,6,7,8,19,35,51,65,66] rfl rfl ?_
      cases M with
      | true =>
        repeat (first | refine Run.seq ?_ | refine Run.skip ?_)
        first | refine Run.condT rfl rfl ?_ | refine Run.condF rfl rfl ?_ | refine Run.condT rfl (by assumption) ?_ | refine Run.condF rfl (by assumption) ?_
        repeat (first | refine Run.seq ?_ | refine Run.skip ?_ | refine Run.block ?_)
        refine Run.region ?_
        refine O.assign rfl rfl ?_
        refine O.nil ?_
        try refine Run.keep [0,1,2,3,4,5,6,7,8,19,35,51,65,66] rfl rfl ?_
        refine Run.ret ?_
        (repeat (first | refine Run.seq ?_ | refine Run.skip ?_)); (try refine Run.ret ?_); first | exact Ends.flat hE (.inr rfl) rfl rfl (AVle.of_eq rfl) rfl | exact Ends.flat hE (.inl rfl) rfl rfl (AVle.of_eq rfl) rfl
      | false =>
        repeat (first | refine Run.seq ?_ | refine Run.skip ?_)
        first | refine Run.condT rfl rfl ?_ | refine Run.condF rfl rfl ?_ | refine Run.condT rfl (by assumption) ?_ | refine Run.condF rfl (by assumption) ?_
        repeat (first | refine Run.seq ?_ | refine Run.skip ?_ | refine Run.block ?_)
        refine Run.region ?_
        refine O.assign rfl rfl ?_
        refine O.nil ?_
        try refine Run.keep [0,1,2,3,4,5,6,7,8,19,35,51,65,66] rfl rfl ?_
        (repeat (first | refine Run.seq ?_ | refine Run.skip ?_)); (try refine Run.ret ?_); first | exact Ends.flat hE (.inr rfl) rfl rfl (AVle.of_eq rfl) rfl | exact Ends.flat hE (.inl rfl) rfl rfl (AVle.of_eq rfl) rfl
theorem fnBothV (hV : VStr g) {v w : Vl} (hv : Good v) (hw : Good w) : FnC (En Tryd.prog g) 104 [vlA v, vlA w] (.pv (.int .i64 0)) [] := by
  have hE := EnOk g
  have c1 := fnCheck hV hv
  have c2 := fnCheck hV hw
  clear hv hw
  obtain ⟨k, n, b, s⟩ := v
  obtain ⟨k', n', b', s'⟩ := w
  dsimp only [vlA] at c1 c2 ⊢
  exact FnC.go hE mixed Tryd.func104 [(7, .fn _ _ _ c1), (9, .b false), (12, .fn _ _ _ c2)]
end Go.Proofs.YtdigejpgjnhclaaDoor.Vm
end
