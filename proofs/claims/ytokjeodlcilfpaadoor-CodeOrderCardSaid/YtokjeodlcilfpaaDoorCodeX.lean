/- Two rows that are as long, alike in their first columns: pairOf. Conditions: none beyond the tables of utf8. -/
import Derived.Test.YtokjeodlcilfpaaDoorCodeR
import Derived.Test.YtokjeodlcilfpaaDoorRowV
namespace Go.Proofs.YtokjeodlcilfpaaDoor.Vm
open Go Go.RowKit Go.Lib
set_option linter.unusedVariables false
set_option linter.unusedSimpArgs false
attribute [local irreducible] Ops Dr Run
variable {g : Nat → Option (List PV)}
theorem vlE_cells (v : Vl) : (vlE v).cells.length = 4 := rfl
theorem flat_vl_len (l : List Vl) : (flat (l.map vlE)).length = l.length * 4 := by
  rw [flat_len (sz := 4) (fun e he => by obtain ⟨v, _, rfl⟩ := List.mem_map.1 he; rfl), List.length_map]
theorem flat_vl_flat (l : List Vl) : ∀ x ∈ flat (l.map vlE), flatP x = true := by
  induction l with
  | nil => intro x hx; simp [flat] at hx
  | cons v l ih =>
    intro x hx
    simp only [List.map_cons, flat, List.mem_append] at hx
    rcases hx with hx | hx
    · simp only [vlE, PV.cells, List.mem_cons, List.not_mem_nil, or_false] at hx
      rcases hx with rfl | rfl | rfl | rfl <;> rfl
    · exact ih x hx
theorem flat_vl_take (l : List Vl) {n : Nat} (h : n ≤ l.length) : flat ((l.take n).map vlE) = ((flat (l.map vlE)).drop 0).take (n * 4) := by
  rw [List.drop_zero]
  conv => rhs; rw [← List.take_append_drop n l]
  rw [List.map_append, flat_append]
  exact (List.take_left' (by rw [flat_vl_len, List.length_take, Nat.min_eq_left h])).symm
/-- One element written. -/
theorem set_vl {l : List Vl} {j : Nat} {v w : Vl} (h : l[j]? = some w) : setAt ((flat (l.map vlE)).map AV.pv) (j * 4) [.pv (.int .i64 v.kd), .pv (.int .i64 v.n), .pv (.int .u64 v.b), .pv (.str v.s)] = (flat ((l.take j ++ v :: l.drop (j + 1)).map vlE)).map AV.pv := by
  have hj := (List.getElem?_eq_some_iff.1 h).1
  have hw : l.drop j = w :: l.drop (j + 1) := by
    rw [List.drop_eq_getElem_cons hj]
    rw [List.getElem?_eq_getElem hj] at h
    rw [Option.some.inj h]
  have e : l = l.take j ++ w :: l.drop (j + 1) := by rw [← hw, List.take_append_drop]
  have hA : ((flat ((l.take j).map vlE)).map AV.pv).length = j * 4 := by rw [List.length_map, flat_vl_len, List.length_take, Nat.min_eq_left (by omega)]
  conv => lhs; rw [e]
  rw [List.map_append, List.map_append, flat_append, flat_append, List.map_append, List.map_append]
  simp only [List.map_cons, flat, List.map_append]
  generalize (flat ((l.take j).map vlE)).map AV.pv = A at *
  generalize (flat ((l.drop (j + 1)).map vlE)).map AV.pv = C
  unfold setAt
  rw [← hA, List.take_left, show A.length + [AV.pv (.int .i64 v.kd), .pv (.int .i64 v.n), .pv (.int .u64 v.b), .pv (.str v.s)].length = A.length + 4 by rfl, ← List.drop_drop, List.drop_left]
  simp [vlE, PV.cells]
/-- Two rows of raw things. -/
theorem pair_ex {rs ms : List Rw} (al : Int) (hl : (rs.length : Int) ≤ 9223372036854775807) (hr : ∀ r ∈ rs, RwOk r) (hl' : (ms.length : Int) ≤ 9223372036854775807) (hr' : ∀ r ∈ ms, RwOk r) :
    ∃ us ws : List Vl, us.length ≤ 5 ∧ us.length = ws.length ∧ (∀ v ∈ us, Good v) ∧ (∀ v ∈ ws, Good v) ∧ FnC (En Tryd.prog g) 29 [.pv (.lst 4 (rs.map rawE)), .pv (.lst 4 (ms.map rawE)), .pv (.int .i64 al)] (.tup [.pv (.lst 4 (us.map vlE)), .pv (.lst 4 (ws.map vlE))]) [] := by
  have hE := EnOk g
  obtain ⟨vs, hvl, hvg, c1⟩ := vals_ex (g := g) hl hr
  obtain ⟨xs, hxl, hxg, c2⟩ := valsG_ex (g := g) hl' hr'
  have hvm : (((vs.map vlE).length : Nat) : Int) = vs.length := by simp
  by_cases h0 : xs.length = 0
  ·
    obtain rfl : xs = [] := List.length_eq_zero_iff.1 h0
    have c2 := c2.to (SLe.res0 (y := .pv (.lst 4 [])) (AVle.lst _ _ _ (lstOf_glV rfl rfl)) rfl)
    have c3 := fnPick (g := g) (a := al) (m := 1) (by omega) (by omega)
    rw [show al % 1 = 0 by omega] at c3
    have hmin : (if ((0 : Nat) : Int) < vs.length then ((0 : Nat) : Int) else vs.length) = 0 := by split <;> omega
    refine ⟨[], [], by simp, rfl, fun v hv => by simp at hv, fun v hv => by simp at hv, ?_⟩
    refine FnC.of Tryd.func29 rfl rfl rfl rfl ?_
    repeat (first | refine Run.seq ?_ | refine Run.skip ?_ | refine Run.block ?_)
    refine Run.region ?_
    refine O.assign rfl rfl ?_
    refine O.assign rfl rfl ?_
    refine O.nil ?_
    try refine Run.keep [0, 1, 2, 6, 7, 8, 9, 10, 11, 30, 31, 32] rfl rfl ?_
    repeat (first | refine Run.seq ?_ | refine Run.skip ?_ | refine Run.block ?_)
    refine Run.region ?_
    refine O.move rfl rfl ?_
    refine O.callE c1 rfl (by first | rfl | simp [closed, men3, mens2_app, mens2_ints, mens2, men2, men1, mens1_app, mens1_ints, mens1]) (by first | rfl | simp [d2, ds1_ints, ds1_app, ds1, d1, ds0_app, ds0_ints, ds0, d0]) rfl ?_
    refine O.move rfl rfl ?_
    refine O.callE c2 rfl (by first | rfl | simp [closed, men3, mens2_app, mens2_ints, mens2, men2, men1, mens1_app, mens1_ints, mens1]) (by first | rfl | simp [d2, ds1_ints, ds1_app, ds1, d1, ds0_app, ds0_ints, ds0, d0]) rfl ?_
    refine O.assign rfl rfl ?_
    refine O.assign rfl rfl ?_
    refine O.nil ?_
    try refine Run.keep [0, 1, 2, 6, 7, 8, 9, 10, 11, 30, 31, 32] rfl rfl ?_
    repeat (first | refine Run.seq ?_ | refine Run.skip ?_ | refine Run.block ?_)
    refine Run.region ?_
    refine O.move rfl rfl ?_
    refine O.lenN hE T53 rfl rfl rfl newest_pv hvm rfl ?_
    refine O.move rfl rfl ?_
    first | refine O.lenN hE T53 rfl rfl rfl (by first | exact newest_pv | exact newest_gl rfl rfl | trivial) lenC rfl ?_ | refine O.lenLst hE T53 rfl rfl rfl (by first | exact newest_pv | exact newest_gl rfl rfl | trivial) rfl ?_
    refine O.minI rfl rfl hmin rfl ?_
    refine O.assign rfl rfl ?_
    refine O.nil ?_
    try refine Run.keep [0, 1, 2, 6, 7, 8, 9, 10, 11, 30, 31, 32] rfl rfl ?_
    repeat (first | refine Run.seq ?_ | refine Run.skip ?_ | refine Run.block ?_)
    refine Run.draw mixed rfl ?_
    refine D.move rfl rfl ?_
    refine D.move rfl rfl ?_
    refine D.sliceP (ys := []) hE T53 rfl T69 rfl rfl rfl rfl (by omega) (by omega) (by omega) rfl rfl ?_
    refine D.move rfl rfl ?_
    refine D.move rfl rfl ?_
    refine D.sliceP (ys := []) hE T53 rfl T69 rfl rfl rfl rfl (by omega) (by omega) (by simp) rfl rfl ?_
    refine D.assign rfl rfl ?_
    refine D.assign rfl rfl ?_
    refine Dr.nil ?_
    refine ⟨rfl, ?_⟩
    try refine Run.keep [0, 1, 2, 6, 7, 8, 9, 10, 11, 30, 31, 32] rfl rfl ?_
    repeat (first | refine Run.seq ?_ | refine Run.skip ?_ | refine Run.block ?_)
    refine Run.region ?_
    refine O.move rfl rfl ?_
    refine O.move rfl rfl ?_
    first | refine O.ar rfl rfl rfl (by exact wrap_i64 (by omega) (by omega)) rfl ?_ | refine O.ar rfl rfl rfl rfl rfl ?_
    refine O.callE c3 rfl (by first | rfl | simp [closed, men3, mens2_app, mens2_ints, mens2, men2, men1, mens1_app, mens1_ints, mens1]) (by first | rfl | simp [d2, ds1_ints, ds1_app, ds1, d1, ds0_app, ds0_ints, ds0, d0]) rfl ?_
    refine O.move rfl rfl ?_
    refine O.nil ?_
    try refine Run.keep [0, 1, 2, 6, 7, 8, 9, 10, 11, 30, 31, 32] rfl rfl ?_
    repeat (first | refine Run.seq ?_ | refine Run.skip ?_)
    refine Run.block ?_
    refine Run.loopInv (ι := Nat) (fun j => j = 0) (fun j => ⟨44, [(8, .pv (.lst 4 [])), (9, .pv (.lst 4 [])), (30, .pv (.int .i64 0)), (31, .pv (.int .i64 (j : Int)))], []⟩) (fun j => j) 0 rfl ?_ ?_
    ·
      refine SLe.eqv (by repeat (first | exact TmIn.nil | refine TmIn.cons rfl ?_)) (by repeat (first | exact BxIn.nil | refine BxIn.cons rfl ?_)) rfl
    rintro j rfl ih
    repeat (first | refine Run.seq ?_ | refine Run.skip ?_ | refine Run.block ?_)
    refine Run.region ?_
    first | refine O.cmp rfl rfl rfl (by first | exact decide_eq_true (by omega) | exact decide_eq_false (by omega)) rfl ?_ | refine O.cmp rfl rfl rfl rfl rfl ?_
    refine O.nil ?_
    try refine Run.keep [0, 1, 2, 6, 7, 8, 9, 10, 11, 30, 31, 32] rfl rfl ?_
    repeat (first | refine Run.seq ?_ | refine Run.skip ?_)
    first | refine Run.condT rfl rfl ?_ | refine Run.condF rfl rfl ?_ | refine Run.condT rfl (by assumption) ?_ | refine Run.condF rfl (by assumption) ?_
    refine Run.exit ?_
    repeat (first | refine thenR_exit ?_ | refine roundR_exit ?_ | refine blockR_exit ?_ | refine blockR_pass rfl ?_)
    repeat (first | refine Run.seq ?_ | refine Run.skip ?_ | refine Run.block ?_)
    refine Run.region ?_
    refine O.move rfl rfl ?_
    refine O.move rfl rfl ?_
    refine O.assign rfl rfl ?_
    refine O.assign rfl rfl ?_
    refine O.nil ?_
    try refine Run.keep [0, 1, 2, 6, 7, 8, 9, 10, 11, 30, 31, 32] rfl rfl ?_
    (repeat (first | refine Run.seq ?_ | refine Run.skip ?_)); (try refine Run.ret ?_); first | exact Ends.flat hE (.inr rfl) rfl rfl (AVle.of_eq rfl) rfl | exact Ends.flat hE (.inl rfl) rfl rfl (AVle.of_eq rfl) rfl
  have c2 := c2.thaw (by simp) (by omega) (flat_vl_flat xs)
  obtain ⟨n, hn⟩ : ∃ n : Nat, (if (xs.length : Int) < vs.length then (xs.length : Int) else vs.length) = (n : Int) := ⟨min vs.length xs.length, by split <;> omega⟩
  have hn1 : n ≤ vs.length := by split at hn <;> omega
  have hn2 : n ≤ xs.length := by split at hn <;> omega
  have c3 := fnPick (g := g) (a := al) (m := (n : Int) + 1) (by omega) (by omega)
  obtain ⟨p, hp, hpn⟩ : ∃ p : Nat, al % ((n : Int) + 1) = (p : Int) ∧ p ≤ n := ⟨(al % ((n : Int) + 1)).toNat, by have := Int.emod_nonneg al (b := (n : Int) + 1) (by omega); omega, by have := Int.emod_lt_of_pos al (b := (n : Int) + 1) (by omega); have := Int.emod_nonneg al (b := (n : Int) + 1) (by omega); omega⟩
  rw [hp] at c3
  have hsl : ((vs.map vlE).take (n : Int).toNat).drop (0 : Int).toNat = (vs.take n).map vlE := by rw [Int.toNat_natCast, List.map_take]; rfl
  have hvt : (vs.take n).length = n := by rw [List.length_take]; omega
  refine ⟨vs.take n, ((vs.take p) ++ xs.drop p).take n, by omega, by simp; omega, fun v hv => hvg v (List.mem_of_mem_take hv), fun v hv => ?_, ?_⟩
  · rcases List.mem_append.1 (List.mem_of_mem_take hv) with h | h
    · exact hvg v (List.mem_of_mem_take h)
    · exact hxg v (List.mem_of_mem_drop h)
  refine FnC.of Tryd.func29 rfl rfl rfl rfl ?_
  repeat (first | refine Run.seq ?_ | refine Run.skip ?_ | refine Run.block ?_)
  refine Run.region ?_
  refine O.assign rfl rfl ?_
  refine O.assign rfl rfl ?_
  refine O.nil ?_
  try refine Run.keep [0, 1, 2, 6, 7, 8, 9, 10, 11, 30, 31, 32] rfl rfl ?_
  repeat (first | refine Run.seq ?_ | refine Run.skip ?_ | refine Run.block ?_)
  refine Run.region ?_
  refine O.move rfl rfl ?_
  refine O.callE c1 rfl (by first | rfl | simp [closed, men3, mens2_app, mens2_ints, mens2, men2, men1, mens1_app, mens1_ints, mens1]) (by first | rfl | simp [d2, ds1_ints, ds1_app, ds1, d1, ds0_app, ds0_ints, ds0, d0]) rfl ?_
  refine O.move rfl rfl ?_
  refine O.call (bs' := []) (bs2 := [(200, .var ((flat (xs.map vlE)).map .pv))]) 147 c2 (.cons (AVle.of_eq rfl) .nil) rfl rfl rfl (by simp [dBs, dB, ds1_pvs]) rfl rfl (by simp only [shBs, shB, shs2_pvs]; rfl) ?_
  refine O.assign rfl rfl ?_
  refine O.assign rfl rfl ?_
  refine O.nil ?_
  try refine Run.keep [0, 1, 2, 6, 7, 8, 9, 10, 11, 30, 31, 32] rfl rfl ?_
  repeat (first | refine Run.seq ?_ | refine Run.skip ?_ | refine Run.block ?_)
  refine Run.region ?_
  refine O.move rfl rfl ?_
  refine O.lenN hE T53 rfl rfl rfl newest_pv hvm rfl ?_
  refine O.move rfl rfl ?_
  refine O.lenRow hE T53 rfl rfl rfl rfl ?_
  refine O.minI rfl rfl hn rfl ?_
  refine O.assign rfl rfl ?_
  refine O.nil ?_
  try refine Run.keep [0, 1, 2, 6, 7, 8, 9, 10, 11, 30, 31, 32] rfl rfl ?_
  repeat (first | refine Run.seq ?_ | refine Run.skip ?_ | refine Run.block ?_)
  refine Run.draw mixed rfl ?_
  refine D.move rfl rfl ?_
  refine D.move rfl rfl ?_
  refine D.sliceP hE T53 rfl T69 rfl rfl rfl rfl (by omega) (by omega) (by omega) hsl rfl ?_
  refine D.move rfl rfl ?_
  refine D.move rfl rfl ?_
  refine D.sliceRow hE T53 rfl T69 rfl rfl rfl hn2 (by omega) rfl ?_
  refine D.assign rfl rfl ?_
  refine D.assign rfl rfl ?_
  refine Dr.nil ?_
  refine ⟨rfl, ?_⟩
  try refine Run.keep [0, 1, 2, 6, 7, 8, 9, 10, 11, 30, 31, 32] rfl rfl ?_
  repeat (first | refine Run.seq ?_ | refine Run.skip ?_ | refine Run.block ?_)
  refine Run.region ?_
  refine O.move rfl rfl ?_
  refine O.move rfl rfl ?_
  refine O.ar (q := (n : Int) + 1) rfl rfl rfl (wrap_i64 (by omega) (by omega)) rfl ?_
  refine O.callE c3 rfl (by first | rfl | simp [closed, men3, mens2_app, mens2_ints, mens2, men2, men1, mens1_app, mens1_ints, mens1]) (by first | rfl | simp [d2, ds1_ints, ds1_app, ds1, d1, ds0_app, ds0_ints, ds0, d0]) rfl ?_
  refine O.move rfl rfl ?_
  refine O.nil ?_
  try refine Run.keep [0, 1, 2, 6, 7, 8, 9, 10, 11, 30, 31, 32] rfl rfl ?_
  repeat (first | refine Run.seq ?_ | refine Run.skip ?_)
  refine Run.block ?_
  refine Run.loopInv (ι := Nat) (fun j => j ≤ p) (fun j => ⟨44, [(8, .pv (.lst 4 ((vs.take n).map vlE))), (9, .vrow 200 0 n), (30, .pv (.int .i64 (p : Int))), (31, .pv (.int .i64 (j : Int)))], [(200, .var ((flat ((vs.take j ++ xs.drop j).map vlE)).map .pv))]⟩) (fun j => p - j) 0 (Nat.zero_le _) ?_ ?_
  ·
    refine SLe.eqv (by repeat (first | exact TmIn.nil | refine TmIn.cons rfl ?_)) (by repeat (first | exact BxIn.nil | refine BxIn.cons rfl ?_)) rfl
  rintro j hj ih
  by_cases hlt : j < p
  ·
    obtain ⟨v, hv⟩ : ∃ v, vs[j]? = some v := ⟨_, List.getElem?_eq_getElem (by omega)⟩
    obtain ⟨w, hw⟩ : ∃ w, xs[j]? = some w := ⟨_, List.getElem?_eq_getElem (by omega)⟩
    have hat : ((vs.take n).map vlE)[(j : Int).toNat]? = some (vlE v) := by rw [Int.toNat_natCast, List.getElem?_map, List.getElem?_take, if_pos (by omega), hv]; rfl
    have hjl : (vs.take j).length = j := by rw [List.length_take]; omega
    have hX : (vs.take j ++ xs.drop j)[j]? = some w := by
      rw [List.getElem?_append_right (by omega), hjl, Nat.sub_self, List.getElem?_drop, Nat.add_zero, hw]
    have hXn : (vs.take j ++ xs.drop j).take j ++ v :: (vs.take j ++ xs.drop j).drop (j + 1) = vs.take (j + 1) ++ xs.drop (j + 1) := by
      have e1 : vs.take (j + 1) = vs.take j ++ [v] := by rw [List.take_add_one, hv]; rfl
      have e2 : (vs.take j ++ xs.drop j).take j = vs.take j := by
        have := List.take_left' (l₂ := xs.drop j) hjl
        exact this
      have e3 : (vs.take j ++ xs.drop j).drop (j + 1) = xs.drop (j + 1) := by
        rw [List.drop_append, List.drop_of_length_le (by omega), List.nil_append, hjl, List.drop_drop]
        congr 1
        omega
      rw [e1, e2, e3]
      simp
    have hst := set_vl (v := v) hX
    rw [hXn] at hst
    have hble : j * 4 + 4 ≤ ((flat ((vs.take j ++ xs.drop j).map vlE)).map AV.pv).length := by
      rw [List.length_map, flat_vl_len, List.length_append, hjl, List.length_drop]
      omega
    obtain ⟨k, m, bt, t⟩ := v
    dsimp only at hst
    repeat (first | refine Run.seq ?_ | refine Run.skip ?_ | refine Run.block ?_)
    refine Run.region ?_
    first | refine O.cmp rfl rfl rfl (by first | exact decide_eq_true (by omega) | exact decide_eq_false (by omega)) rfl ?_ | refine O.cmp rfl rfl rfl rfl rfl ?_
    refine O.nil ?_
    try refine Run.keep [0, 1, 2, 6, 7, 8, 9, 10, 11, 30, 31, 32] rfl rfl ?_
    repeat (first | refine Run.seq ?_ | refine Run.skip ?_)
    first | refine Run.condT rfl rfl ?_ | refine Run.condF rfl rfl ?_ | refine Run.condT rfl (by assumption) ?_ | refine Run.condF rfl (by assumption) ?_
    repeat (first | refine Run.seq ?_ | refine Run.skip ?_ | refine Run.block ?_)
    refine Run.region ?_
    refine O.move rfl rfl ?_
    refine O.assign rfl rfl ?_
    refine O.nil ?_
    try refine Run.keep [0, 1, 2, 6, 7, 8, 9, 10, 11, 30, 31, 32] rfl rfl ?_
    repeat (first | refine Run.seq ?_ | refine Run.skip ?_ | refine Run.block ?_)
    refine Run.region ?_
    refine O.move rfl rfl ?_
    refine O.move rfl rfl ?_
    refine O.move rfl rfl ?_
    refine O.move rfl rfl ?_
    refine O.index hE T53 rfl T69 rfl rfl newest_pv rfl (by omega) hat rfl rfl rfl ?_
    refine O.load hE T69 rfl rfl rfl rfl ?_
    refine O.indexRow hE T53 rfl T69 rfl rfl (by omega) (by omega) (show 0 + (j : Int).toNat * 4 = j * 4 by rw [Int.toNat_natCast]; omega) rfl ?_
    refine O.storeS hE T69 rfl rfl rfl rfl rfl hble hst ?_
    refine O.nil ?_
    try refine Run.keep [0, 1, 2, 6, 7, 8, 9, 10, 11, 30, 31, 32] rfl rfl ?_
    repeat (first | refine Run.seq ?_ | refine Run.skip ?_ | refine Run.block ?_)
    refine Run.region ?_
    first | refine O.ar rfl rfl rfl (by exact wrap_i64 (by omega) (by omega)) rfl ?_ | refine O.ar rfl rfl rfl rfl rfl ?_
    refine O.move rfl rfl ?_
    refine O.nil ?_
    try refine Run.keep [0, 1, 2, 6, 7, 8, 9, 10, 11, 30, 31, 32] rfl rfl ?_
    refine ih (j + 1) _ ?_ (by omega) (by omega)
    refine SLe.eqv (by repeat (first | exact TmIn.nil | refine TmIn.cons rfl ?_)) (by repeat (first | exact BxIn.nil | refine BxIn.cons rfl ?_)) rfl
  obtain rfl : j = p := by omega
  repeat (first | refine Run.seq ?_ | refine Run.skip ?_ | refine Run.block ?_)
  refine Run.region ?_
  first | refine O.cmp rfl rfl rfl (by first | exact decide_eq_true (by omega) | exact decide_eq_false (by omega)) rfl ?_ | refine O.cmp rfl rfl rfl rfl rfl ?_
  refine O.nil ?_
  try refine Run.keep [0, 1, 2, 6, 7, 8, 9, 10, 11, 30, 31, 32] rfl rfl ?_
  repeat (first | refine Run.seq ?_ | refine Run.skip ?_)
  first | refine Run.condT rfl rfl ?_ | refine Run.condF rfl rfl ?_ | refine Run.condT rfl (by assumption) ?_ | refine Run.condF rfl (by assumption) ?_
  refine Run.exit ?_
  repeat (first | refine thenR_exit ?_ | refine roundR_exit ?_ | refine blockR_exit ?_ | refine blockR_pass rfl ?_)
  repeat (first | refine Run.seq ?_ | refine Run.skip ?_ | refine Run.block ?_)
  refine Run.region ?_
  refine O.move rfl rfl ?_
  refine O.move rfl rfl ?_
  refine O.assign rfl rfl ?_
  refine O.assign rfl rfl ?_
  refine O.nil ?_
  try refine Run.keep [0, 1, 2, 6, 7, 8, 9, 10, 11, 30, 31, 32] rfl rfl ?_
  refine Run.ret ?_
  exact Ends.of hE (.inr rfl) rfl rfl (SLe.freezeR 200 rfl (TmZ.cons rfl (FzV.tups (.cons (.same _) (.cons (.row (sz := 4) (flat_vl_take _ (by simp; omega)) (by simp; omega) (fun e he => by obtain ⟨v, _, rfl⟩ := List.mem_map.1 he; rfl) (fun e he x hx => by obtain ⟨v, _, rfl⟩ := List.mem_map.1 he; simp only [vlE, PV.cells, List.mem_cons, List.not_mem_nil, or_false] at hx; rcases hx with rfl | rfl | rfl | rfl <;> rfl)) .nil))) .nil) BxIn.nil rfl rfl rfl)
end Go.Proofs.YtokjeodlcilfpaaDoor.Vm
