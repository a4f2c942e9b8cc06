/- What is done to values in an expression: numbers reckoned. Conditions: none. -/
import Derived.Test.YtdigejpgjnhclaaDoorEvalB
import Derived.Test.YtdigejpgjnhclaaDoorExecT
namespace Go.Proofs.YtdigejpgjnhclaaDoor.Vm
open Go Go.RowKit Go.Lib
set_option linter.unusedVariables false
set_option linter.unusedSimpArgs false
attribute [local irreducible] Ops Dr Run
variable {g : Nat → Option (List PV)}
theorem fnReckNull {op : Int} {v w : Vl} (hv : Of 2 v) (hw : Of 2 w) (h : v.kd = 0 ∨ w.kd = 0) : FnC (En Tryd.prog g) 91 [.pv (.int .i64 op), vlA v, vlA w] (.tup [vlA v0, .pv (.int .i64 0)]) [] := by
  have hE := EnOk g
  have c1 := fnAskedE (g := g) (k := 2) (by omega) hv hw
  obtain ⟨vk, vn, vb, vs⟩ := v
  obtain ⟨wk, wn, wb, ws⟩ := w
  dsimp only at h
  dsimp only [vlA] at c1 ⊢
  refine FnC.of Tryd.func91 rfl rfl rfl rfl ?_
  by_cases hk : vk = 0
  ·
    repeat (first | refine Run.seq ?_ | refine Run.skip ?_ | refine Run.block ?_)
    refine Run.region ?_
    refine O.box 4 rfl (by first | rfl | exact cells_ones (by simp [ones_app, ones_ints, ones, AV.one, PV.one])) rfl rfl ?_
    refine O.box 5 rfl (by first | rfl | exact cells_ones (by simp [ones_app, ones_ints, ones, AV.one, PV.one])) rfl rfl ?_
    refine O.alloc hE 6 T25 rfl rfl rfl ?_
    refine O.assign rfl rfl ?_
    refine O.nil ?_
    try refine Run.keep [0,1,2,4,5,6,7,8,9,10,11,12,16,25,31,33,41,46,60,63,77,80,87,114] rfl rfl ?_
    repeat (first | refine Run.seq ?_ | refine Run.skip ?_ | refine Run.block ?_)
    refine Run.region ?_
    refine O.load hE T25 rfl rfl rfl rfl ?_
    refine O.load hE T25 rfl rfl rfl rfl ?_
    refine O.callE c1 rfl (by first | rfl | simp [closed, men3, mens2_app, mens2_ints, mens2, men2, men1, mens1_app, mens1_ints, mens1]) (by first | rfl | simp [d2, ds1_ints, ds1_app, ds1, d1, ds0_app, ds0_ints, ds0, d0]) rfl ?_
    refine O.un rfl rfl rfl rfl rfl ?_
    refine O.nil ?_
    try refine Run.keep [0,1,2,4,5,6,7,8,9,10,11,12,16,25,31,33,41,46,60,63,77,80,87,114] rfl rfl ?_
    repeat (first | refine Run.seq ?_ | refine Run.skip ?_)
    first | refine Run.condT rfl rfl ?_ | refine Run.condF rfl rfl ?_ | refine Run.condT rfl (by assumption) ?_ | refine Run.condF rfl (by assumption) ?_
    repeat (first | refine Run.seq ?_ | refine Run.skip ?_ | refine Run.block ?_)
    refine Run.region ?_
    refine O.field hE L25 rfl rfl rfl rfl ?_
    first | refine O.loadS hE T3 rfl rfl rfl (by rfl) rfl ?_ | refine O.loadE hE T3 rfl rfl (by rfl) rfl ?_ | refine O.load hE T3 rfl rfl rfl rfl ?_
    first | refine O.cmp rfl rfl rfl (by first | exact dT (by omega) | exact dF (by omega)) rfl ?_ | refine O.cmp rfl rfl rfl rfl rfl ?_
    refine O.move rfl rfl ?_
    first | (refine O.yes rfl rfl (by trivial) ?_; refine O.field hE L25 rfl rfl rfl rfl ?_) | refine O.no rfl rfl rfl rfl ?_
    first | (refine O.yes rfl rfl (by trivial) ?_; first | refine O.loadS hE T3 rfl rfl rfl (by rfl) rfl ?_ | refine O.loadE hE T3 rfl rfl (by rfl) rfl ?_ | refine O.load hE T3 rfl rfl rfl rfl ?_) | refine O.no rfl rfl rfl rfl ?_
    first | (refine O.yes rfl rfl (by trivial) ?_; first | refine O.cmp rfl rfl rfl (by first | exact dT (by omega) | exact dF (by omega)) rfl ?_ | refine O.cmp rfl rfl rfl rfl rfl ?_) | refine O.no rfl rfl rfl rfl ?_
    refine O.pick rfl rfl rfl rfl rfl ?_
    refine O.nil ?_
    try refine Run.keep [0,1,2,4,5,6,7,8,9,10,11,12,16,25,31,33,41,46,60,63,77,80,87,114] rfl rfl ?_
    repeat (first | refine Run.seq ?_ | refine Run.skip ?_)
    first | refine Run.condT rfl rfl ?_ | refine Run.condF rfl rfl ?_ | refine Run.condT rfl (by assumption) ?_ | refine Run.condF rfl (by assumption) ?_
    repeat (first | refine Run.seq ?_ | refine Run.skip ?_ | refine Run.block ?_)
    refine Run.region ?_
    refine O.build hE T25 L25 rfl rfl rfl ?_
    refine O.store hE T25 rfl rfl rfl rfl rfl rfl ?_
    refine O.assign rfl rfl ?_
    refine O.nil ?_
    try refine Run.keep [0,1,2,4,5,6,7,8,9,10,11,12,16,25,31,33,41,46,60,63,77,80,87,114] rfl rfl ?_
    (repeat (first | refine Run.seq ?_ | refine Run.skip ?_)); (try refine Run.ret ?_); first | exact Ends.flat hE (.inr rfl) rfl rfl (AVle.of_eq rfl) rfl | exact Ends.flat hE (.inl rfl) rfl rfl (AVle.of_eq rfl) rfl
  ·
    have hw0 : wk = 0 := h.resolve_left hk
    repeat (first | refine Run.seq ?_ | refine Run.skip ?_ | refine Run.block ?_)
    refine Run.region ?_
    refine O.box 4 rfl (by first | rfl | exact cells_ones (by simp [ones_app, ones_ints, ones, AV.one, PV.one])) rfl rfl ?_
    refine O.box 5 rfl (by first | rfl | exact cells_ones (by simp [ones_app, ones_ints, ones, AV.one, PV.one])) rfl rfl ?_
    refine O.alloc hE 6 T25 rfl rfl rfl ?_
    refine O.assign rfl rfl ?_
    refine O.nil ?_
    try refine Run.keep [0,1,2,4,5,6,7,8,9,10,11,12,16,25,31,33,41,46,60,63,77,80,87,114] rfl rfl ?_
    repeat (first | refine Run.seq ?_ | refine Run.skip ?_ | refine Run.block ?_)
    refine Run.region ?_
    refine O.load hE T25 rfl rfl rfl rfl ?_
    refine O.load hE T25 rfl rfl rfl rfl ?_
    refine O.callE c1 rfl (by first | rfl | simp [closed, men3, mens2_app, mens2_ints, mens2, men2, men1, mens1_app, mens1_ints, mens1]) (by first | rfl | simp [d2, ds1_ints, ds1_app, ds1, d1, ds0_app, ds0_ints, ds0, d0]) rfl ?_
    refine O.un rfl rfl rfl rfl rfl ?_
    refine O.nil ?_
    try refine Run.keep [0,1,2,4,5,6,7,8,9,10,11,12,16,25,31,33,41,46,60,63,77,80,87,114] rfl rfl ?_
    repeat (first | refine Run.seq ?_ | refine Run.skip ?_)
    first | refine Run.condT rfl rfl ?_ | refine Run.condF rfl rfl ?_ | refine Run.condT rfl (by assumption) ?_ | refine Run.condF rfl (by assumption) ?_
    repeat (first | refine Run.seq ?_ | refine Run.skip ?_ | refine Run.block ?_)
    refine Run.region ?_
    refine O.field hE L25 rfl rfl rfl rfl ?_
    first | refine O.loadS hE T3 rfl rfl rfl (by rfl) rfl ?_ | refine O.loadE hE T3 rfl rfl (by rfl) rfl ?_ | refine O.load hE T3 rfl rfl rfl rfl ?_
    first | refine O.cmp rfl rfl rfl (by first | exact dT (by omega) | exact dF (by omega)) rfl ?_ | refine O.cmp rfl rfl rfl rfl rfl ?_
    refine O.move rfl rfl ?_
    first | (refine O.yes rfl rfl (by trivial) ?_; refine O.field hE L25 rfl rfl rfl rfl ?_) | refine O.no rfl rfl rfl rfl ?_
    first | (refine O.yes rfl rfl (by trivial) ?_; first | refine O.loadS hE T3 rfl rfl rfl (by rfl) rfl ?_ | refine O.loadE hE T3 rfl rfl (by rfl) rfl ?_ | refine O.load hE T3 rfl rfl rfl rfl ?_) | refine O.no rfl rfl rfl rfl ?_
    first | (refine O.yes rfl rfl (by trivial) ?_; first | refine O.cmp rfl rfl rfl (by first | exact dT (by omega) | exact dF (by omega)) rfl ?_ | refine O.cmp rfl rfl rfl rfl rfl ?_) | refine O.no rfl rfl rfl rfl ?_
    refine O.pick rfl rfl rfl rfl rfl ?_
    refine O.nil ?_
    try refine Run.keep [0,1,2,4,5,6,7,8,9,10,11,12,16,25,31,33,41,46,60,63,77,80,87,114] rfl rfl ?_
    repeat (first | refine Run.seq ?_ | refine Run.skip ?_)
    first | refine Run.condT rfl rfl ?_ | refine Run.condF rfl rfl ?_ | refine Run.condT rfl (by assumption) ?_ | refine Run.condF rfl (by assumption) ?_
    repeat (first | refine Run.seq ?_ | refine Run.skip ?_ | refine Run.block ?_)
    refine Run.region ?_
    refine O.build hE T25 L25 rfl rfl rfl ?_
    refine O.store hE T25 rfl rfl rfl rfl rfl rfl ?_
    refine O.assign rfl rfl ?_
    refine O.nil ?_
    try refine Run.keep [0,1,2,4,5,6,7,8,9,10,11,12,16,25,31,33,41,46,60,63,77,80,87,114] rfl rfl ?_
    (repeat (first | refine Run.seq ?_ | refine Run.skip ?_)); (try refine Run.ret ?_); first | exact Ends.flat hE (.inr rfl) rfl rfl (AVle.of_eq rfl) rfl | exact Ends.flat hE (.inl rfl) rfl rfl (AVle.of_eq rfl) rfl
set_option maxHeartbeats 2000000 in
theorem fnReckAdd {a b : Int} (ha : inR a) (hb : inR b) : FnC (En Tryd.prog g) 91 [.pv (.int .i64 5), vlA (vN a), vlA (vN b)] (.tup [vlA (reck 5 a b).1, .pv (.int .i64 (reck 5 a b).2)]) [] := by
  have hE := EnOk g
  have c1 := fnAskedE (g := g) (k := 2) (v := vN a) (w := vN b) (by omega) (.inl rfl) (.inl rfl)
  dsimp only [vlA, vN] at c1
  by_cases h : inR (a + b)
  ·
    have e : reck 5 a b = (vN (a + b), 0) := by unfold reck; rw [if_pos rfl, if_pos h]
    unfold inR at h ha hb
    by_cases hb0 : 0 < b
    ·
      rw [e]
      have cn := fnNumber (g := g) (n := a + b)
      dsimp only [vlA, vN] at cn
      dsimp only [vlA, vN]
      exact FnC.go hE mixed Tryd.func91 [(15, .fn _ _ _ c1), (20, .b false), (24, .b false), (47, .b true), (53, .b true), (55, .b true), (56, .b true), (62, .fn _ _ _ cn)]
    ·
      rw [e]
      have cn := fnNumber (g := g) (n := a + b)
      dsimp only [vlA, vN] at cn
      dsimp only [vlA, vN]
      exact FnC.go hE mixed Tryd.func91 [(15, .fn _ _ _ c1), (20, .b false), (24, .b false), (47, .b true), (53, .b false), (55, .b false), (56, .b true), (62, .fn _ _ _ cn)]
  ·
    have e : reck 5 a b = (v0, 6) := by unfold reck; rw [if_pos rfl, if_neg h]
    unfold inR at h ha hb
    by_cases hb0 : 0 < b
    ·
      rw [e]
      have hW : IntKind.i64.wrap (a + b) = a + b - 18446744073709551616 := by rw [IntKind.wrap_i64]; omega
      dsimp only [vlA, vN]
      exact FnC.go hE mixed Tryd.func91 [(15, .fn _ _ _ c1), (20, .b false), (24, .b false), (47, .b true), (50, .w (a + b - 18446744073709551616)), (53, .b false), (55, .b true), (56, .b false), (59, .b false)]
    ·
      rw [e]
      have hW : IntKind.i64.wrap (a + b) = a + b + 18446744073709551616 := by rw [IntKind.wrap_i64]; omega
      dsimp only [vlA, vN]
      exact FnC.go hE mixed Tryd.func91 [(15, .fn _ _ _ c1), (20, .b false), (24, .b false), (47, .b true), (50, .w (a + b + 18446744073709551616)), (53, .b true), (55, .b false), (56, .b false), (59, .b false)]
set_option maxHeartbeats 2000000 in
theorem fnReckSub {a b : Int} (ha : inR a) (hb : inR b) : FnC (En Tryd.prog g) 91 [.pv (.int .i64 6), vlA (vN a), vlA (vN b)] (.tup [vlA (reck 6 a b).1, .pv (.int .i64 (reck 6 a b).2)]) [] := by
  have hE := EnOk g
  have c1 := fnAskedE (g := g) (k := 2) (v := vN a) (w := vN b) (by omega) (.inl rfl) (.inl rfl)
  dsimp only [vlA, vN] at c1
  by_cases h : inR (a - b)
  ·
    have e : reck 6 a b = (vN (a - b), 0) := by unfold reck; rw [if_neg (by omega), if_pos rfl, if_pos h]
    unfold inR at h ha hb
    by_cases hb0 : 0 < b
    ·
      rw [e]
      have cn := fnNumber (g := g) (n := a - b)
      dsimp only [vlA, vN] at cn
      dsimp only [vlA, vN]
      exact FnC.go hE mixed Tryd.func91 [(15, .fn _ _ _ c1), (20, .b false), (24, .b false), (47, .b false), (64, .b true), (70, .b true), (72, .b true), (73, .b true), (79, .fn _ _ _ cn)]
    ·
      rw [e]
      have cn := fnNumber (g := g) (n := a - b)
      dsimp only [vlA, vN] at cn
      dsimp only [vlA, vN]
      exact FnC.go hE mixed Tryd.func91 [(15, .fn _ _ _ c1), (20, .b false), (24, .b false), (47, .b false), (64, .b true), (70, .b false), (72, .b false), (73, .b true), (79, .fn _ _ _ cn)]
  ·
    have e : reck 6 a b = (v0, 6) := by unfold reck; rw [if_neg (by omega), if_pos rfl, if_neg h]
    unfold inR at h ha hb
    by_cases hb0 : 0 < b
    ·
      rw [e]
      have hW : IntKind.i64.wrap (a - b) = a - b + 18446744073709551616 := by rw [IntKind.wrap_i64]; omega
      dsimp only [vlA, vN]
      exact FnC.go hE mixed Tryd.func91 [(15, .fn _ _ _ c1), (20, .b false), (24, .b false), (47, .b false), (64, .b true), (67, .w (a - b + 18446744073709551616)), (70, .b false), (72, .b true), (73, .b false), (76, .b false)]
    ·
      rw [e]
      have hW : IntKind.i64.wrap (a - b) = a - b - 18446744073709551616 := by rw [IntKind.wrap_i64]; omega
      dsimp only [vlA, vN]
      exact FnC.go hE mixed Tryd.func91 [(15, .fn _ _ _ c1), (20, .b false), (24, .b false), (47, .b false), (64, .b true), (67, .w (a - b - 18446744073709551616)), (70, .b true), (72, .b false), (73, .b false), (76, .b false)]
set_option maxHeartbeats 2000000 in
theorem fnReckMul {a b : Int} (ha : inR a) (hb : inR b) : FnC (En Tryd.prog g) 91 [.pv (.int .i64 7), vlA (vN a), vlA (vN b)] (.tup [vlA (reck 7 a b).1, .pv (.int .i64 (reck 7 a b).2)]) [] := by
  have hE := EnOk g
  have c1 := fnAskedE (g := g) (k := 2) (v := vN a) (w := vN b) (by omega) (.inl rfl) (.inl rfl)
  dsimp only [vlA, vN] at c1
  by_cases ha0 : a = 0
  ·
    subst ha0
    rw [show reck 7 0 b = (vN 0, 0) by unfold reck; rw [if_neg (by omega), if_neg (by omega), if_pos rfl, Int.zero_mul, if_pos (by unfold inR; omega)]]
    have cn := fnNumber (g := g) (n := 0)
    dsimp only [vlA, vN] at cn
    dsimp only [vlA, vN]
    exact FnC.go hE mixed Tryd.func91 [(15, .fn _ _ _ c1), (20, .b false), (24, .b false), (47, .b false), (64, .b false), (81, .b true), (83, .b true), (88, .fn _ _ _ cn)]
  by_cases hb0 : b = 0
  ·
    subst hb0
    rw [show reck 7 a 0 = (vN 0, 0) by unfold reck; rw [if_neg (by omega), if_neg (by omega), if_pos rfl, Int.mul_zero, if_pos (by unfold inR; omega)]]
    have cn := fnNumber (g := g) (n := 0)
    dsimp only [vlA, vN] at cn
    dsimp only [vlA, vN]
    exact FnC.go hE mixed Tryd.func91 [(15, .fn _ _ _ c1), (20, .b false), (24, .b false), (47, .b false), (64, .b false), (81, .b true), (83, .b false), (86, .b true), (88, .fn _ _ _ cn)]
  have hQ0 : inR (a * b) → IntKind.i64.wrap ((IntKind.i64.wrap (a * b)).tdiv b) = a := fun h => by rw [wrap_id h]; exact mul_ok ha hb0
  have hQ1 : ¬ inR (a * b) → ¬ (b = -1 ∧ a = -9223372036854775808) → IntKind.i64.wrap ((IntKind.i64.wrap (a * b)).tdiv b) ≠ a := fun h h1 => mul_bad ha hb hb0 h h1
  have hx1 : a = -1 → b = -9223372036854775808 → ¬ inR (a * b) := fun h1 h2 => by subst h1; subst h2; unfold inR; omega
  have hx2 : b = -1 → a = -9223372036854775808 → ¬ inR (a * b) := fun h1 h2 => by subst h1; subst h2; unfold inR; omega
  have eT : inR (a * b) → reck 7 a b = (vN (a * b), 0) := fun h => by unfold reck; rw [if_neg (by omega), if_neg (by omega), if_pos rfl, if_pos h]
  have eF : ¬ inR (a * b) → reck 7 a b = (v0, 6) := fun h => by unfold reck; rw [if_neg (by omega), if_neg (by omega), if_pos rfl, if_neg h]
  have hW0 : inR (a * b) → IntKind.i64.wrap (a * b) = a * b := wrap_id
  obtain ⟨W, hW⟩ : ∃ W, IntKind.i64.wrap (a * b) = W := ⟨_, rfl⟩
  rw [hW] at hQ0 hQ1 hW0
  obtain ⟨Q, hQ⟩ : ∃ Q, IntKind.i64.wrap (W.tdiv b) = Q := ⟨_, rfl⟩
  rw [hQ] at hQ0 hQ1
  have hsh : (a = -1 ∧ b = -9223372036854775808) ∨ (b = -1 ∧ a = -9223372036854775808) ∨ (a = -1 ∧ b = -1) ∨ (a = -1 ∧ b ≠ -1 ∧ b ≠ -9223372036854775808) ∨ (a ≠ -1 ∧ b = -1 ∧ a ≠ -9223372036854775808) ∨ (a ≠ -1 ∧ b ≠ -1) := by omega
  rcases hsh with ⟨h1, h2⟩ | ⟨h1, h2⟩ | ⟨h1, h2⟩ | ⟨h1, h2, h3⟩ | ⟨h1, h2, h3⟩ | ⟨h1, h2⟩
  ·
    rw [eF (hx1 h1 h2)]
    clear hQ0 hQ1 hx1 hx2 eT eF hW0
    dsimp only [vlA, vN]
    exact FnC.go hE mixed Tryd.func91 [(15, .fn _ _ _ c1), (20, .b false), (24, .b false), (47, .b false), (64, .b false), (81, .b true), (83, .b false), (86, .b false), (91, .w W), (93, .b true), (96, .b true)]
  ·
    rw [eF (hx2 h1 h2)]
    clear hQ0 hQ1 hx1 hx2 eT eF hW0
    dsimp only [vlA, vN]
    exact FnC.go hE mixed Tryd.func91 [(15, .fn _ _ _ c1), (20, .b false), (24, .b false), (47, .b false), (64, .b false), (81, .b true), (83, .b false), (86, .b false), (91, .w W), (93, .b false), (101, .b true), (104, .b true)]
  ·
    by_cases h : inR (a * b)
    ·
      rw [eT h]
      have hQa := hQ0 h
      rw [← hW0 h]
      clear hQ0 hQ1 hx1 hx2 eT eF hW0 h
      have cn := fnNumber (g := g) (n := W)
      dsimp only [vlA, vN] at cn
      dsimp only [vlA, vN]
      exact FnC.go hE mixed Tryd.func91 [(15, .fn _ _ _ c1), (20, .b false), (24, .b false), (47, .b false), (64, .b false), (81, .b true), (83, .b false), (86, .b false), (91, .w W), (93, .b true), (96, .b false), (101, .b true), (104, .b false), (111, .w Q), (113, .b true), (116, .fn _ _ _ cn)]
    ·
      rw [eF h]
      have hQa := hQ1 h (by omega)
      clear hQ0 hQ1 hx1 hx2 eT eF hW0 h
      dsimp only [vlA, vN]
      exact FnC.go hE mixed Tryd.func91 [(15, .fn _ _ _ c1), (20, .b false), (24, .b false), (47, .b false), (64, .b false), (81, .b true), (83, .b false), (86, .b false), (91, .w W), (93, .b true), (96, .b false), (101, .b true), (104, .b false), (111, .w Q), (113, .b false)]
  ·
    by_cases h : inR (a * b)
    ·
      rw [eT h]
      have hQa := hQ0 h
      rw [← hW0 h]
      clear hQ0 hQ1 hx1 hx2 eT eF hW0 h
      have cn := fnNumber (g := g) (n := W)
      dsimp only [vlA, vN] at cn
      dsimp only [vlA, vN]
      exact FnC.go hE mixed Tryd.func91 [(15, .fn _ _ _ c1), (20, .b false), (24, .b false), (47, .b false), (64, .b false), (81, .b true), (83, .b false), (86, .b false), (91, .w W), (93, .b true), (96, .b false), (101, .b false), (111, .w Q), (113, .b true), (116, .fn _ _ _ cn)]
    ·
      rw [eF h]
      have hQa := hQ1 h (by omega)
      clear hQ0 hQ1 hx1 hx2 eT eF hW0 h
      dsimp only [vlA, vN]
      exact FnC.go hE mixed Tryd.func91 [(15, .fn _ _ _ c1), (20, .b false), (24, .b false), (47, .b false), (64, .b false), (81, .b true), (83, .b false), (86, .b false), (91, .w W), (93, .b true), (96, .b false), (101, .b false), (111, .w Q), (113, .b false)]
  ·
    by_cases h : inR (a * b)
    ·
      rw [eT h]
      have hQa := hQ0 h
      rw [← hW0 h]
      clear hQ0 hQ1 hx1 hx2 eT eF hW0 h
      have cn := fnNumber (g := g) (n := W)
      dsimp only [vlA, vN] at cn
      dsimp only [vlA, vN]
      exact FnC.go hE mixed Tryd.func91 [(15, .fn _ _ _ c1), (20, .b false), (24, .b false), (47, .b false), (64, .b false), (81, .b true), (83, .b false), (86, .b false), (91, .w W), (93, .b false), (101, .b true), (104, .b false), (111, .w Q), (113, .b true), (116, .fn _ _ _ cn)]
    ·
      rw [eF h]
      have hQa := hQ1 h (by omega)
      clear hQ0 hQ1 hx1 hx2 eT eF hW0 h
      dsimp only [vlA, vN]
      exact FnC.go hE mixed Tryd.func91 [(15, .fn _ _ _ c1), (20, .b false), (24, .b false), (47, .b false), (64, .b false), (81, .b true), (83, .b false), (86, .b false), (91, .w W), (93, .b false), (101, .b true), (104, .b false), (111, .w Q), (113, .b false)]
  ·
    by_cases h : inR (a * b)
    ·
      rw [eT h]
      have hQa := hQ0 h
      rw [← hW0 h]
      clear hQ0 hQ1 hx1 hx2 eT eF hW0 h
      have cn := fnNumber (g := g) (n := W)
      dsimp only [vlA, vN] at cn
      dsimp only [vlA, vN]
      exact FnC.go hE mixed Tryd.func91 [(15, .fn _ _ _ c1), (20, .b false), (24, .b false), (47, .b false), (64, .b false), (81, .b true), (83, .b false), (86, .b false), (91, .w W), (93, .b false), (101, .b false), (111, .w Q), (113, .b true), (116, .fn _ _ _ cn)]
    ·
      rw [eF h]
      have hQa := hQ1 h (by omega)
      clear hQ0 hQ1 hx1 hx2 eT eF hW0 h
      dsimp only [vlA, vN]
      exact FnC.go hE mixed Tryd.func91 [(15, .fn _ _ _ c1), (20, .b false), (24, .b false), (47, .b false), (64, .b false), (81, .b true), (83, .b false), (86, .b false), (91, .w W), (93, .b false), (101, .b false), (111, .w Q), (113, .b false)]
set_option maxHeartbeats 2000000 in
theorem fnReckDiv {a b : Int} (ha : inR a) (hb : inR b) : FnC (En Tryd.prog g) 91 [.pv (.int .i64 8), vlA (vN a), vlA (vN b)] (.tup [vlA (reck 8 a b).1, .pv (.int .i64 (reck 8 a b).2)]) [] := by
  have hE := EnOk g
  have c1 := fnAskedE (g := g) (k := 2) (v := vN a) (w := vN b) (by omega) (.inl rfl) (.inl rfl)
  dsimp only [vlA, vN] at c1
  by_cases hb0 : b = 0
  ·
    rw [show reck 8 a b = (v0, 7) by unfold reck; rw [if_neg (by omega), if_neg (by omega), if_neg (by omega), if_pos hb0]]
    dsimp only [vlA, vN]
    exact FnC.go hE mixed Tryd.func91 [(15, .fn _ _ _ c1), (20, .b false), (24, .b false), (47, .b false), (64, .b false), (81, .b false), (33, .b true)]
  by_cases hx : a = -9223372036854775808 ∧ b = -1
  ·
    obtain ⟨h1, h2⟩ := hx
    rw [show reck 8 a b = (v0, 6) by unfold reck; rw [if_neg (by omega), if_neg (by omega), if_neg (by omega), if_neg hb0, if_neg (by subst h1; subst h2; unfold inR; decide)]]
    dsimp only [vlA, vN]
    exact FnC.go hE mixed Tryd.func91 [(15, .fn _ _ _ c1), (20, .b false), (24, .b false), (47, .b false), (64, .b false), (81, .b false), (33, .b false), (36, .b true), (39, .b true)]
  have hin := tdiv_in ha hb0 hx
  have hQ := wrap_id hin
  have eT : reck 8 a b = (vN (a.tdiv b), 0) := by unfold reck; rw [if_neg (by omega), if_neg (by omega), if_neg (by omega), if_neg hb0, if_pos hin]
  clear hin
  obtain ⟨q, hq⟩ : ∃ q, a.tdiv b = q := ⟨_, rfl⟩
  rw [hq] at eT
  have hQ : IntKind.i64.wrap (a.tdiv b) = q := by rw [hQ, hq]
  by_cases h1 : a = -9223372036854775808
  ·
    have h2 : b ≠ -1 := fun e => hx ⟨h1, e⟩
    rw [eT]
    clear eT
    have cn := fnNumber (g := g) (n := q)
    dsimp only [vlA, vN] at cn
    dsimp only [vlA, vN]
    exact FnC.go hE mixed Tryd.func91 [(15, .fn _ _ _ c1), (20, .b false), (24, .b false), (47, .b false), (64, .b false), (81, .b false), (33, .b false), (36, .b true), (39, .b false), (44, .w q), (45, .fn _ _ _ cn)]
  ·
    rw [eT]
    clear eT
    have cn := fnNumber (g := g) (n := q)
    dsimp only [vlA, vN] at cn
    dsimp only [vlA, vN]
    exact FnC.go hE mixed Tryd.func91 [(15, .fn _ _ _ c1), (20, .b false), (24, .b false), (47, .b false), (64, .b false), (81, .b false), (33, .b false), (36, .b false), (44, .w q), (45, .fn _ _ _ cn)]
end Go.Proofs.YtdigejpgjnhclaaDoor.Vm
