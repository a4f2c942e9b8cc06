/- Disks: synced; what lasts of one that falls. Conditions: none. Printed by gen_fall.py. -/
import Derived.Test.YtalcpfpjkfpmbaaDiskC
namespace Go.Proofs.Ytalcpfpjkfpmbaa.Vm
open Go Go.RowKit
set_option linter.unusedVariables false
set_option linter.unusedSimpArgs false
attribute [local irreducible] Ops Dr Run
/-- What lasts, after so many writes. -/
def fl (P : Nat → Bool) (Ls : List (List Int)) (Ws : List Pt) : Nat → List (List Int)
  | 0 => Ls
  | j + 1 => match Ws[j]? with
    | some w => if P j = true then (fl P Ls Ws j).set w.pl.toNat w.s else fl P Ls Ws j
    | none => fl P Ls Ws j
theorem fl_len (P : Nat → Bool) {Ls : List (List Int)} {Ws : List Pt} : ∀ j, (fl P Ls Ws j).length = Ls.length
  | 0 => rfl
  | j + 1 => by
    rw [fl]
    split
    · split
      · rw [List.length_set, fl_len P j]
      · exact fl_len P j
    · exact fl_len P j
theorem fl_sec {Ls : List (List Int)} {Ws : List Pt} (h : DOk Ls Ws) (P : Nat → Bool) : ∀ j, ∀ S ∈ fl P Ls Ws j, S.length = 32
  | 0 => h.s
  | j + 1 => by
    rw [fl]
    split
    · rename_i w hw
      split
      · intro S hS
        rcases List.mem_or_eq_of_mem_set hS with hS | rfl
        · exact fl_sec h P j S hS
        · exact (h.w w (List.mem_of_getElem? hw)).2.2
      · exact fl_sec h P j
    · exact fl_sec h P j
theorem sec_cells {X : List (List Int)} (h : ∀ S ∈ X, S.length = 32) : ∀ e ∈ X.map secE, e.cells.length = 32 := fun e he => by
  obtain ⟨S, hS, rfl⟩ := List.mem_map.1 he
  simp [PV.cells, h S hS]
theorem flat_sec_len {X : List (List Int)} (h : ∀ S ∈ X, S.length = 32) : (flat (X.map secE)).length = X.length * 32 := by
  rw [flat_len (sec_cells h), List.length_map]
theorem flat_sec_take {X : List (List Int)} (h : ∀ S ∈ X, S.length = 32) {n : Nat} (hn : X.length = n) : flat (X.map secE) = ((flat (X.map secE)).drop 0).take (n * 32) := by
  rw [List.drop_zero, List.take_of_length_le (by rw [flat_sec_len h, hn]; omega)]
theorem set_sec {X : List (List Int)} {i : Nat} {S : List Int} (h : ∀ S ∈ X, S.length = 32) (hi : i < X.length) (hS : S.length = 32 := by assumption) : setAt ((flat (X.map secE)).map AV.pv) (i * 32) (cel S) = (flat ((X.set i S).map secE)).map AV.pv := by
  have e : X = X.take i ++ X[i] :: X.drop (i + 1) := by rw [List.getElem_cons_drop, List.take_append_drop]
  have e2 : X.set i S = X.take i ++ S :: X.drop (i + 1) := List.set_eq_take_append_cons_drop ▸ (by rw [if_pos hi])
  have hA : ((flat ((X.take i).map secE)).map AV.pv).length = i * 32 := by rw [List.length_map, flat_sec_len (fun S hS => h S (List.mem_of_mem_take hS)), List.length_take, Nat.min_eq_left (by omega)]
  have hB : ((secE X[i]).cells.map AV.pv).length = 32 := by rw [List.length_map]; simp [PV.cells, h X[i] (List.getElem_mem hi)]
  rw [e2]
  conv => lhs; rw [e]
  rw [List.map_append, List.map_append, flat_append, flat_append, List.map_append, List.map_append]
  simp only [List.map_cons, flat, List.map_append]
  generalize (flat ((X.take i).map secE)).map AV.pv = A at *
  generalize (flat ((X.drop (i + 1)).map secE)).map AV.pv = C
  generalize (secE X[i]).cells.map AV.pv = D at *
  unfold setAt
  rw [← hA, List.take_left, cel_len, hS, ← List.drop_drop, List.drop_left, ← hB, List.drop_left]
  simp [PV.cells]
variable {g : Nat → Option (List PV)}
theorem sync1 (j : Int) : FnC (En Try.prog g) 27 [.pv (.int .i64 j)] (.pv (.bool true)) [] := by
  have hE := EnOk g
  refine FnC.of Try.func27 rfl rfl rfl rfl ?_
  repeat (first | refine Run.seq ?_ | refine Run.skip ?_ | refine Run.block ?_)
  refine Run.region ?_
  refine O.assign rfl rfl ?_
  refine O.nil ?_
  try refine Run.keep [2] rfl rfl ?_
  repeat (first | refine Run.seq ?_ | refine Run.skip ?_ | refine Run.block ?_)
  refine Run.region ?_
  refine O.assign rfl rfl ?_
  refine O.nil ?_
  try refine Run.keep [2] rfl rfl ?_
  (repeat (first | refine Run.seq ?_ | refine Run.skip ?_)); (try refine Run.ret ?_); first | exact Ends.flat hE (.inr rfl) rfl rfl (AVle.of_eq rfl) rfl | exact Ends.flat hE (.inl rfl) rfl rfl (AVle.of_eq rfl) rfl
/-- Whether a write lasts. -/
def kB (keep : Int) (j : Nat) : Bool := decide ((j : Int) < 63) && decide (IntKind.i64.wrap (BitVec.ofInt IntKind.i64.bits (keep.fdiv (2 ^ (min (j : Int).toNat IntKind.i64.bits))) &&& BitVec.ofInt IntKind.i64.bits 1).toNat = 1)
theorem crash1 (keep : Int) (j : Nat) : FnL (EnL Try.prog g [3]) 22 [.pv (.int .i64 (j : Int)), .ptr 3 0] [(3, .var [.pv (.int .i64 keep)])] (.pv (.bool (kB keep j))) [(3, .var [.pv (.int .i64 keep)])] := by
  have hE := EnLOk g [3]
  unfold kB
  refine FnL.of Try.func22 rfl rfl rfl rfl ?_
  repeat (first | refine Run.seq ?_ | refine Run.skip ?_ | refine Run.block ?_)
  refine Run.region ?_
  refine O.assign rfl rfl ?_
  refine O.nil ?_
  try refine Run.keep [0, 1, 3] rfl rfl ?_
  by_cases hj : (j : Int) < 63
  ·
    rw [decide_eq_true hj, Bool.true_and]
    repeat (first | refine Run.seq ?_ | refine Run.skip ?_ | refine Run.block ?_)
    refine Run.region ?_
    refine O.move rfl rfl ?_
    first | refine O.cmp rfl rfl rfl (by first | exact decide_eq_true (by omega) | exact decide_eq_false (by omega)) rfl ?_ | refine O.cmp rfl rfl rfl rfl rfl ?_
    refine O.move rfl rfl ?_
    first | (refine O.yes rfl rfl (by first | rfl | assumption) ?_; first | refine O.loadS hE T3 rfl rfl rfl (by rfl) rfl ?_ | refine O.loadE hE T3 rfl rfl (by rfl) rfl ?_ | refine O.load hE T3 rfl rfl rfl rfl ?_) | refine O.no rfl rfl rfl rfl ?_
    first | (refine O.yes rfl rfl (by first | rfl | assumption) ?_; refine O.move rfl rfl ?_) | refine O.no rfl rfl rfl rfl ?_
    first | (refine O.yes rfl rfl (by first | rfl | assumption) ?_; refine O.shr rfl rfl (by first | omega | (exact wrap_nn rfl _)) rfl ?_) | refine O.no rfl rfl rfl rfl ?_
    first | (refine O.yes rfl rfl (by first | rfl | assumption) ?_; refine O.bit rfl rfl rfl rfl ?_) | refine O.no rfl rfl rfl rfl ?_
    first | (refine O.yes rfl rfl (by first | rfl | assumption) ?_; first | refine O.cmp rfl rfl rfl (by first | exact decide_eq_true (by omega) | exact decide_eq_false (by omega)) rfl ?_ | refine O.cmp rfl rfl rfl rfl rfl ?_) | refine O.no rfl rfl rfl rfl ?_
    refine O.pick rfl rfl rfl rfl rfl ?_
    refine O.assign rfl rfl ?_
    refine O.nil ?_
    try refine Run.keep [0, 1, 3] rfl rfl ?_
    refine Run.ret ?_
    exact Ends.of hE (.inr rfl) rfl rfl (SLe.drop (by repeat (first | exact TmIn.nil | refine TmIn.cons rfl ?_)) (by repeat (first | exact BxIn.nil | refine BxIn.cons rfl ?_)) rfl rfl)
  ·
    rw [decide_eq_false hj, Bool.false_and]
    repeat (first | refine Run.seq ?_ | refine Run.skip ?_ | refine Run.block ?_)
    refine Run.region ?_
    refine O.move rfl rfl ?_
    first | refine O.cmp rfl rfl rfl (by first | exact decide_eq_true (by omega) | exact decide_eq_false (by omega)) rfl ?_ | refine O.cmp rfl rfl rfl rfl rfl ?_
    refine O.move rfl rfl ?_
    first | (refine O.yes rfl rfl (by first | rfl | assumption) ?_; first | refine O.loadS hE T3 rfl rfl rfl (by rfl) rfl ?_ | refine O.loadE hE T3 rfl rfl (by rfl) rfl ?_ | refine O.load hE T3 rfl rfl rfl rfl ?_) | refine O.no rfl rfl rfl rfl ?_
    first | (refine O.yes rfl rfl (by first | rfl | assumption) ?_; refine O.move rfl rfl ?_) | refine O.no rfl rfl rfl rfl ?_
    first | (refine O.yes rfl rfl (by first | rfl | assumption) ?_; refine O.shr rfl rfl (by first | omega | (exact wrap_nn rfl _)) rfl ?_) | refine O.no rfl rfl rfl rfl ?_
    first | (refine O.yes rfl rfl (by first | rfl | assumption) ?_; refine O.bit rfl rfl rfl rfl ?_) | refine O.no rfl rfl rfl rfl ?_
    first | (refine O.yes rfl rfl (by first | rfl | assumption) ?_; first | refine O.cmp rfl rfl rfl (by first | exact decide_eq_true (by omega) | exact decide_eq_false (by omega)) rfl ?_ | refine O.cmp rfl rfl rfl rfl rfl ?_) | refine O.no rfl rfl rfl rfl ?_
    refine O.pick rfl rfl rfl rfl rfl ?_
    refine O.assign rfl rfl ?_
    refine O.nil ?_
    try refine Run.keep [0, 1, 3] rfl rfl ?_
    refine Run.ret ?_
    exact Ends.of hE (.inr rfl) rfl rfl (SLe.drop (by repeat (first | exact TmIn.nil | refine TmIn.cons rfl ?_)) (by repeat (first | exact BxIn.nil | refine BxIn.cons rfl ?_)) rfl rfl)
theorem fnFallS {Ls : List (List Int)} {Ws : List Pt} (h : DOk Ls Ws) : FnC (En Try.prog g) 21 [dskA Ls Ws, .clo 27 []] (.tup [dskA (fl (fun _ => true) Ls Ws Ws.length) [], .pv (.int .i64 0)]) [] := by
  have hE := EnOk g
  have c1 := (fnDCheck (g := g) h)
  have hlen := fl_len (fun _ => true) (Ls := Ls) (Ws := Ws)
  have hsec := fl_sec h (fun _ => true)
  obtain ⟨l1, l4, hs, w6, hw⟩ := h
  have hLm : (Ls.map secE).length = Ls.length := by simp
  refine FnC.of Try.func21 rfl rfl rfl rfl ?_
  repeat (first | refine Run.seq ?_ | refine Run.skip ?_ | refine Run.block ?_)
  refine Run.region ?_
  refine O.box 2 rfl (by first | rfl | exact cells_ones (by simp [ones_app, ones_ints, ones, AV.one, PV.one])) rfl rfl ?_
  refine O.alloc hE 4 T26 rfl rfl rfl ?_
  refine O.assign rfl rfl ?_
  refine O.nil ?_
  try refine Run.keep [0, 1, 2, 4, 5, 6, 7, 8, 9, 13, 22, 23, 24, 25, 31] rfl rfl ?_
  repeat (first | refine Run.seq ?_ | refine Run.skip ?_ | refine Run.block ?_)
  refine Run.region ?_
  refine O.load hE T26 rfl rfl rfl rfl ?_
  refine O.callE c1 rfl (by first | rfl | simp [closed, men3, mens2_app, mens2_ints, mens2, men2, men1, mens1_app, mens1_ints, mens1]) (by first | rfl | simp [d2, ds1_ints, ds1_app, ds1, d1, ds0_app, ds0_ints, ds0, d0]) rfl ?_
  refine O.assign rfl rfl ?_
  refine O.nil ?_
  try refine Run.keep [0, 1, 2, 4, 5, 6, 7, 8, 9, 13, 22, 23, 24, 25, 31] rfl rfl ?_
  repeat (first | refine Run.seq ?_ | refine Run.skip ?_ | refine Run.block ?_)
  refine Run.region ?_
  refine O.move rfl rfl ?_
  first | refine O.cmp rfl rfl rfl (by first | exact decide_eq_true (by omega) | exact decide_eq_false (by omega)) rfl ?_ | refine O.cmp rfl rfl rfl rfl rfl ?_
  refine O.nil ?_
  try refine Run.keep [0, 1, 2, 4, 5, 6, 7, 8, 9, 13, 22, 23, 24, 25, 31] rfl rfl ?_
  repeat (first | refine Run.seq ?_ | refine Run.skip ?_)
  first | refine Run.condT rfl rfl ?_ | refine Run.condF rfl rfl ?_ | refine Run.condT rfl (by assumption) ?_ | refine Run.condF rfl (by assumption) ?_
  repeat (first | refine Run.seq ?_ | refine Run.skip ?_ | refine Run.block ?_)
  refine Run.region ?_
  refine O.lit hE 16 T23 rfl T64 rfl rfl rfl (xs := []) rfl rfl rfl rfl rfl ?_
  refine O.field hE L26 rfl rfl rfl rfl ?_
  first | refine O.loadS hE T23 rfl rfl rfl (by rfl) rfl ?_ | refine O.loadE hE T23 rfl rfl (by rfl) rfl ?_ | refine O.load hE T23 rfl rfl rfl rfl ?_
  refine O.appendRow (b := 16) (ys := Ls.map secE) (tm1 := [(1, .clo 27 []), (2, .ptr 2 0), (4, .ptr 4 0)]) (bx1 := [(2, .var [.pv (.lst 32 (Ls.map secE)), .pv (.lst 33 (Ws.map putE))]), (4, .var [.pv .nil, .pv .nil])]) hE T23 rfl T64 rfl rfl rfl rfl newest_pv rfl rfl rfl (by rw [hLm]; dsimp only; omega) (by rw [hLm]; unfold maxLen; omega) (by omega) rfl (by repeat (first | exact TmIn.nil | refine TmIn.cons rfl ?_)) (by repeat (first | exact BxIn.nil | refine BxIn.cons rfl ?_)) rfl rfl rfl rfl ?_; rw [hLm]
  refine O.build hE T26 L26 rfl rfl rfl ?_
  refine O.alloc hE 7 T26 rfl rfl rfl ?_
  refine O.store hE T26 rfl rfl rfl rfl rfl rfl ?_
  refine O.nil ?_
  try refine Run.keep [0, 1, 2, 4, 5, 6, 7, 8, 9, 13, 22, 23, 24, 25, 31] rfl rfl ?_
  repeat (first | refine Run.seq ?_ | refine Run.skip ?_ | refine Run.block ?_)
  refine Run.region ?_
  refine O.field hE L26 rfl rfl rfl rfl ?_
  first | refine O.loadS hE T24 rfl rfl rfl (by rfl) rfl ?_ | refine O.loadE hE T24 rfl rfl (by rfl) rfl ?_ | refine O.load hE T24 rfl rfl rfl rfl ?_
  first | refine O.lenN hE T24 rfl rfl rfl (by first | exact newest_pv | exact newest_gl rfl rfl | trivial) lenC rfl ?_ | refine O.lenLst hE T24 rfl rfl rfl (by first | exact newest_pv | exact newest_gl rfl rfl | trivial) rfl ?_
  refine O.move rfl rfl ?_
  refine O.nil ?_
  try refine Run.keep [0, 1, 2, 4, 5, 6, 7, 8, 9, 13, 22, 23, 24, 25, 31] rfl rfl ?_
  repeat (first | refine Run.seq ?_ | refine Run.skip ?_)
  refine Run.block ?_
  refine Run.loopInv (ι := Nat) (fun j => j ≤ Ws.length) (fun j => ⟨41, [(1, .clo 27 []), (4, .ptr 4 0), (7, .ptr 7 0), (22, .pv (.lst 33 (Ws.map putE))), (23, .pv (.int .i64 Ws.length)), (24, .pv (.int .i64 (j : Int)))], [(7, .var [.vrow 16 0 Ls.length, .pv .nil]), (16, .var ((flat ((fl (fun _ => true) Ls Ws j).map secE)).map .pv)), (4, .var [.pv .nil, .pv .nil])]⟩) (fun j => Ws.length - j) 0 (Nat.zero_le _) ?_ ?_
  ·
    exact SLe.drop (by repeat (first | exact TmIn.nil | refine TmIn.cons rfl ?_)) (by repeat (first | exact BxIn.nil | refine BxIn.cons rfl ?_)) rfl (by simp only [mbx, menB, mens2_pvs]; rfl)
  rintro j hj ih
  by_cases hlt : j < Ws.length
  ·
    obtain ⟨w, hv⟩ : ∃ w, Ws[j]? = some w := ⟨_, List.getElem?_eq_getElem hlt⟩
    obtain ⟨w1, w2, w3⟩ := hw w (List.mem_of_getElem? hv)
    have hat : (Ws.map putE)[(j : Int).toNat]? = some (putE w) := by rw [Int.toNat_natCast, List.getElem?_map, hv]; rfl
    have hstep : fl (fun _ => true) Ls Ws (j + 1) = if (fun _ => true) j = true then (fl (fun _ => true) Ls Ws j).set w.pl.toNat w.s else fl (fun _ => true) Ls Ws j := by rw [fl, hv]
    have hl0 := hlen j
    have hs0 := hsec j
    generalize fl (fun _ => true) Ls Ws j = X at *
    obtain ⟨pl, S⟩ := w
    dsimp only at w1 w2 w3 hstep
    have hset := set_sec (X := X) (i := pl.toNat) (S := S) hs0 (by omega)
    have hble : pl.toNat * 32 + (cel S).length ≤ ((flat (X.map secE)).map AV.pv).length := by
      have e1 : ((flat (X.map secE)).map AV.pv).length = X.length * 32 := by rw [List.length_map, flat_sec_len hs0]
      rw [e1, cel_len, w3, hl0]
      omega
    ·
      rw [if_pos rfl] at hstep
      repeat (first | refine Run.seq ?_ | refine Run.skip ?_ | refine Run.block ?_)
      refine Run.region ?_
      first | refine O.cmp rfl rfl rfl (by first | exact decide_eq_true (by omega) | exact decide_eq_false (by omega)) rfl ?_ | refine O.cmp rfl rfl rfl rfl rfl ?_
      refine O.nil ?_
      try refine Run.keep [0, 1, 2, 4, 5, 6, 7, 8, 9, 13, 22, 23, 24, 25, 31] rfl rfl ?_
      repeat (first | refine Run.seq ?_ | refine Run.skip ?_)
      first | refine Run.condT rfl rfl ?_ | refine Run.condF rfl rfl ?_ | refine Run.condT rfl (by assumption) ?_ | refine Run.condF rfl (by assumption) ?_
      repeat (first | refine Run.seq ?_ | refine Run.skip ?_ | refine Run.block ?_)
      refine Run.region ?_
      refine O.move rfl rfl ?_
      refine O.index hE T24 rfl T70 rfl rfl newest_pv rfl (by omega) hat rfl rfl rfl ?_
      refine O.loadEA hE T70 rfl rfl (by simp [PV.cells, w3]) rfl ?_
      refine O.alloc hE 9 T70 rfl rfl rfl ?_
      refine O.assign rfl rfl ?_
      refine O.storeS hE T70 rfl rfl (cells_put pl S) rfl (by simp [w3]) (by simp [w3]) (setAt_all _ _ (by simp [w3])) ?_
      refine O.nil ?_
      try refine Run.keep [0, 1, 2, 4, 5, 6, 7, 8, 9, 13, 22, 23, 24, 25, 31] rfl rfl ?_
      repeat (first | refine Run.seq ?_ | refine Run.skip ?_ | refine Run.block ?_)
      refine Run.region ?_
      refine O.move rfl rfl ?_
      refine O.move rfl rfl ?_
      refine O.callV (sync1 (g := g) j) rfl rfl rfl rfl rfl ?_
      refine O.nil ?_
      try refine Run.keep [0, 1, 2, 4, 5, 6, 7, 8, 9, 13, 22, 23, 24, 25, 31] rfl rfl ?_
      repeat (first | refine Run.seq ?_ | refine Run.skip ?_)
      first | refine Run.condT rfl rfl ?_ | refine Run.condF rfl rfl ?_ | refine Run.condT rfl (by assumption) ?_ | refine Run.condF rfl (by assumption) ?_
      repeat (first | refine Run.seq ?_ | refine Run.skip ?_ | refine Run.block ?_)
      refine Run.region ?_
      refine O.field hE L26 rfl rfl rfl rfl ?_
      first | refine O.loadS hE T23 rfl rfl rfl (by rfl) rfl ?_ | refine O.loadE hE T23 rfl rfl (by rfl) rfl ?_ | refine O.load hE T23 rfl rfl rfl rfl ?_
      refine O.field hE L70 rfl rfl rfl rfl ?_
      first | refine O.loadS hE T3 rfl rfl rfl (by rfl) rfl ?_ | refine O.loadE hE T3 rfl rfl (by rfl) rfl ?_ | refine O.load hE T3 rfl rfl rfl rfl ?_
      refine O.field hE L70 rfl rfl rfl rfl ?_
      refine O.loadA (q := cel S) hE T64 rfl rfl rfl (show List.take 32 (cel S) = cel S from List.take_of_length_le (by simp [w3])) (by simp [w3]) rfl ?_
      refine O.indexRow hE T23 rfl T64 rfl rfl w1 (by omega) (show 0 + pl.toNat * 32 = pl.toNat * 32 by omega) rfl ?_
      refine O.storeS hE T64 rfl rfl (cells_cel S) rfl (by simp [w3]) hble hset ?_
      refine O.nil ?_
      try refine Run.keep [0, 1, 2, 4, 5, 6, 7, 8, 9, 13, 22, 23, 24, 25, 31] rfl rfl ?_
      repeat (first | refine Run.seq ?_ | refine Run.skip ?_ | refine Run.block ?_)
      refine Run.region ?_
      first | refine O.ar rfl rfl rfl (by exact wrap_i64 (by omega) (by omega)) rfl ?_ | refine O.ar rfl rfl rfl rfl rfl ?_
      refine O.move rfl rfl ?_
      refine O.nil ?_
      try refine Run.keep [0, 1, 2, 4, 5, 6, 7, 8, 9, 13, 22, 23, 24, 25, 31] rfl rfl ?_
      refine ih (j + 1) _ ?_ (by omega) (by omega)
      rw [hstep]
      exact SLe.drop (by repeat (first | exact TmIn.nil | refine TmIn.cons rfl ?_)) (by repeat (first | exact BxIn.nil | refine BxIn.cons rfl ?_)) rfl (by simp only [mbx, menB, mens2_pvs]; rfl)
  obtain rfl : j = Ws.length := by omega
  have hln := hlen Ws.length
  have hsn := hsec Ws.length
  repeat (first | refine Run.seq ?_ | refine Run.skip ?_ | refine Run.block ?_)
  refine Run.region ?_
  first | refine O.cmp rfl rfl rfl (by first | exact decide_eq_true (by omega) | exact decide_eq_false (by omega)) rfl ?_ | refine O.cmp rfl rfl rfl rfl rfl ?_
  refine O.nil ?_
  try refine Run.keep [0, 1, 2, 4, 5, 6, 7, 8, 9, 13, 22, 23, 24, 25, 31] rfl rfl ?_
  repeat (first | refine Run.seq ?_ | refine Run.skip ?_)
  first | refine Run.condT rfl rfl ?_ | refine Run.condF rfl rfl ?_ | refine Run.condT rfl (by assumption) ?_ | refine Run.condF rfl (by assumption) ?_
  refine Run.exit ?_
  repeat (first | refine thenR_exit ?_ | refine roundR_exit ?_ | refine blockR_exit ?_ | refine blockR_pass rfl ?_)
  generalize fl (fun _ => true) Ls Ws Ws.length = X at *
  repeat (first | refine Run.seq ?_ | refine Run.skip ?_ | refine Run.block ?_)
  refine Run.region ?_
  refine O.load hE T26 rfl rfl rfl rfl ?_
  refine O.store hE T26 rfl rfl rfl rfl rfl rfl ?_
  refine O.assign rfl rfl ?_
  refine O.nil ?_
  try refine Run.keep [0, 1, 2, 4, 5, 6, 7, 8, 9, 13, 22, 23, 24, 25, 31] rfl rfl ?_
  refine Run.ret ?_
  
  exact Ends.of hE (.inr rfl) rfl rfl (SLe.trans (SLe.freezeR (tm' := [(0, .tup [.agg [.pv (.lst 32 (X.map secE)), .pv .nil], .pv (.int .i64 0)])]) (bx' := []) 16 rfl (TmZ.cons rfl (FzV.tups (.cons (FzV.aggs (.cons (.row (sz := 32) (flat_sec_take hsn hln) (by simp [hln]) (fun e he => by obtain ⟨S, hS, rfl⟩ := List.mem_map.1 he; simp [PV.cells, hsn S hS]) (fun e he x hx => by obtain ⟨S, _, rfl⟩ := List.mem_map.1 he; simp only [PV.cells] at hx; obtain ⟨z, _, rfl⟩ := List.mem_map.1 hx; rfl)) (.cons (.same _) .nil))) (.cons (.same _) .nil))) .nil) BxIn.nil rfl rfl rfl) (SLe.by rfl (TmLe.cons (AVle.tups (.cons (AVle.aggs (.cons (AVle.of_eq rfl) (.cons (AVle.nil 33) .nil))) (.cons (AVle.of_eq rfl) .nil))) .nil) BxsLe.nil rfl rfl))
theorem fnDSync {Ls : List (List Int)} {Ws : List Pt} (h : DOk Ls Ws) : FnC (En Try.prog g) 17 [dskA Ls Ws] (.tup [dskA (fl (fun _ => true) Ls Ws Ws.length) [], .pv (.int .i64 0)]) [] := by
  have hE := EnOk g
  have c1 := fnFallS (g := g) h
  generalize fl (fun _ => true) Ls Ws Ws.length = X at *
  refine FnC.of Try.func17 rfl rfl rfl rfl ?_
  repeat (first | refine Run.seq ?_ | refine Run.skip ?_ | refine Run.block ?_)
  refine Run.region ?_
  refine O.box 1 rfl (by first | rfl | exact cells_ones (by simp [ones_app, ones_ints, ones, AV.one, PV.one])) rfl rfl ?_
  refine O.alloc hE 2 T26 rfl rfl rfl ?_
  refine O.assign rfl rfl ?_
  refine O.nil ?_
  try refine Run.keep [0, 1, 2, 3] rfl rfl ?_
  repeat (first | refine Run.seq ?_ | refine Run.skip ?_ | refine Run.block ?_)
  refine Run.region ?_
  refine O.load hE T26 rfl rfl rfl rfl ?_
  refine O.callE c1 rfl (by first | rfl | simp [closed, men3, mens2_app, mens2_ints, mens2, men2, men1, mens1_app, mens1_ints, mens1]) (by first | rfl | simp [d2, ds1_ints, ds1_app, ds1, d1, ds0_app, ds0_ints, ds0, d0]) rfl ?_
  refine O.extract rfl rfl rfl ?_
  refine O.extract rfl rfl rfl ?_
  refine O.store hE T26 rfl rfl rfl rfl rfl rfl ?_
  refine O.assign rfl rfl ?_
  refine O.nil ?_
  try refine Run.keep [0, 1, 2, 3] rfl rfl ?_
  (repeat (first | refine Run.seq ?_ | refine Run.skip ?_)); (try refine Run.ret ?_); first | exact Ends.flat hE (.inr rfl) rfl rfl (AVle.of_eq rfl) rfl | exact Ends.flat hE (.inl rfl) rfl rfl (AVle.of_eq rfl) rfl
theorem fnFallC {Ls : List (List Int)} {Ws : List Pt} (h : DOk Ls Ws) (keep : Int) : FnL (EnL Try.prog g [3]) 21 [dskA Ls Ws, .clo 22 [.ptr 3 0]] [(3, .var [.pv (.int .i64 keep)])] (.tup [dskA (fl (kB keep) Ls Ws Ws.length) [], .pv (.int .i64 0)]) [(3, .var [.pv (.int .i64 keep)])] := by
  have hE := EnLOk g [3]
  have c1 := ((fnDCheck (g := g) h).lent [3])
  have hlen := fl_len (kB keep) (Ls := Ls) (Ws := Ws)
  have hsec := fl_sec h (kB keep)
  obtain ⟨l1, l4, hs, w6, hw⟩ := h
  have hLm : (Ls.map secE).length = Ls.length := by simp
  refine FnL.of Try.func21 rfl rfl rfl rfl ?_
  repeat (first | refine Run.seq ?_ | refine Run.skip ?_ | refine Run.block ?_)
  refine Run.region ?_
  refine O.box 2 rfl (by first | rfl | exact cells_ones (by simp [ones_app, ones_ints, ones, AV.one, PV.one])) rfl rfl ?_
  refine O.alloc hE 4 T26 rfl rfl rfl ?_
  refine O.assign rfl rfl ?_
  refine O.nil ?_
  try refine Run.keep [0, 1, 2, 4, 5, 6, 7, 8, 9, 13, 22, 23, 24, 25, 31] rfl rfl ?_
  repeat (first | refine Run.seq ?_ | refine Run.skip ?_ | refine Run.block ?_)
  refine Run.region ?_
  refine O.load hE T26 rfl rfl rfl rfl ?_
  refine O.callE c1 rfl (by first | rfl | simp [closed, men3, mens2_app, mens2_ints, mens2, men2, men1, mens1_app, mens1_ints, mens1]) (by first | rfl | simp [d2, ds1_ints, ds1_app, ds1, d1, ds0_app, ds0_ints, ds0, d0]) rfl ?_
  refine O.assign rfl rfl ?_
  refine O.nil ?_
  try refine Run.keep [0, 1, 2, 4, 5, 6, 7, 8, 9, 13, 22, 23, 24, 25, 31] rfl rfl ?_
  repeat (first | refine Run.seq ?_ | refine Run.skip ?_ | refine Run.block ?_)
  refine Run.region ?_
  refine O.move rfl rfl ?_
  first | refine O.cmp rfl rfl rfl (by first | exact decide_eq_true (by omega) | exact decide_eq_false (by omega)) rfl ?_ | refine O.cmp rfl rfl rfl rfl rfl ?_
  refine O.nil ?_
  try refine Run.keep [0, 1, 2, 4, 5, 6, 7, 8, 9, 13, 22, 23, 24, 25, 31] rfl rfl ?_
  repeat (first | refine Run.seq ?_ | refine Run.skip ?_)
  first | refine Run.condT rfl rfl ?_ | refine Run.condF rfl rfl ?_ | refine Run.condT rfl (by assumption) ?_ | refine Run.condF rfl (by assumption) ?_
  repeat (first | refine Run.seq ?_ | refine Run.skip ?_ | refine Run.block ?_)
  refine Run.region ?_
  refine O.lit hE 16 T23 rfl T64 rfl rfl rfl (xs := []) rfl rfl rfl rfl rfl ?_
  refine O.field hE L26 rfl rfl rfl rfl ?_
  first | refine O.loadS hE T23 rfl rfl rfl (by rfl) rfl ?_ | refine O.loadE hE T23 rfl rfl (by rfl) rfl ?_ | refine O.load hE T23 rfl rfl rfl rfl ?_
  refine O.appendRow (b := 16) (ys := Ls.map secE) (tm1 := [(1, .clo 22 [.ptr 3 0]), (2, .ptr 2 0), (4, .ptr 4 0)]) (bx1 := [(2, .var [.pv (.lst 32 (Ls.map secE)), .pv (.lst 33 (Ws.map putE))]), (4, .var [.pv .nil, .pv .nil]), (3, .var [.pv (.int .i64 keep)])]) hE T23 rfl T64 rfl rfl rfl rfl newest_pv rfl rfl rfl (by rw [hLm]; dsimp only; omega) (by rw [hLm]; unfold maxLen; omega) (by omega) rfl (by repeat (first | exact TmIn.nil | refine TmIn.cons rfl ?_)) (by repeat (first | exact BxIn.nil | refine BxIn.cons rfl ?_)) rfl rfl rfl rfl ?_; rw [hLm]
  refine O.build hE T26 L26 rfl rfl rfl ?_
  refine O.alloc hE 7 T26 rfl rfl rfl ?_
  refine O.store hE T26 rfl rfl rfl rfl rfl rfl ?_
  refine O.nil ?_
  try refine Run.keep [0, 1, 2, 4, 5, 6, 7, 8, 9, 13, 22, 23, 24, 25, 31] rfl rfl ?_
  repeat (first | refine Run.seq ?_ | refine Run.skip ?_ | refine Run.block ?_)
  refine Run.region ?_
  refine O.field hE L26 rfl rfl rfl rfl ?_
  first | refine O.loadS hE T24 rfl rfl rfl (by rfl) rfl ?_ | refine O.loadE hE T24 rfl rfl (by rfl) rfl ?_ | refine O.load hE T24 rfl rfl rfl rfl ?_
  first | refine O.lenN hE T24 rfl rfl rfl (by first | exact newest_pv | exact newest_gl rfl rfl | trivial) lenC rfl ?_ | refine O.lenLst hE T24 rfl rfl rfl (by first | exact newest_pv | exact newest_gl rfl rfl | trivial) rfl ?_
  refine O.move rfl rfl ?_
  refine O.nil ?_
  try refine Run.keep [0, 1, 2, 4, 5, 6, 7, 8, 9, 13, 22, 23, 24, 25, 31] rfl rfl ?_
  repeat (first | refine Run.seq ?_ | refine Run.skip ?_)
  refine Run.block ?_
  refine Run.loopInv (ι := Nat) (fun j => j ≤ Ws.length) (fun j => ⟨41, [(1, .clo 22 [.ptr 3 0]), (4, .ptr 4 0), (7, .ptr 7 0), (22, .pv (.lst 33 (Ws.map putE))), (23, .pv (.int .i64 Ws.length)), (24, .pv (.int .i64 (j : Int)))], [(7, .var [.vrow 16 0 Ls.length, .pv .nil]), (16, .var ((flat ((fl (kB keep) Ls Ws j).map secE)).map .pv)), (4, .var [.pv .nil, .pv .nil]), (3, .var [.pv (.int .i64 keep)])]⟩) (fun j => Ws.length - j) 0 (Nat.zero_le _) ?_ ?_
  ·
    exact SLe.drop (by repeat (first | exact TmIn.nil | refine TmIn.cons rfl ?_)) (by repeat (first | exact BxIn.nil | refine BxIn.cons rfl ?_)) rfl (by simp only [mbx, menB, mens2_pvs]; rfl)
  rintro j hj ih
  by_cases hlt : j < Ws.length
  ·
    obtain ⟨w, hv⟩ : ∃ w, Ws[j]? = some w := ⟨_, List.getElem?_eq_getElem hlt⟩
    obtain ⟨w1, w2, w3⟩ := hw w (List.mem_of_getElem? hv)
    have hat : (Ws.map putE)[(j : Int).toNat]? = some (putE w) := by rw [Int.toNat_natCast, List.getElem?_map, hv]; rfl
    have hstep : fl (kB keep) Ls Ws (j + 1) = if (kB keep) j = true then (fl (kB keep) Ls Ws j).set w.pl.toNat w.s else fl (kB keep) Ls Ws j := by rw [fl, hv]
    have hl0 := hlen j
    have hs0 := hsec j
    generalize fl (kB keep) Ls Ws j = X at *
    obtain ⟨pl, S⟩ := w
    dsimp only at w1 w2 w3 hstep
    have hset := set_sec (X := X) (i := pl.toNat) (S := S) hs0 (by omega)
    have hble : pl.toNat * 32 + (cel S).length ≤ ((flat (X.map secE)).map AV.pv).length := by
      have e1 : ((flat (X.map secE)).map AV.pv).length = X.length * 32 := by rw [List.length_map, flat_sec_len hs0]
      rw [e1, cel_len, w3, hl0]
      omega
    cases hP : kB keep j with
    | true =>
      rw [hP, if_pos rfl] at hstep
      have cj := crash1 (g := g) keep j
      rw [hP] at cj
      repeat (first | refine Run.seq ?_ | refine Run.skip ?_ | refine Run.block ?_)
      refine Run.region ?_
      first | refine O.cmp rfl rfl rfl (by first | exact decide_eq_true (by omega) | exact decide_eq_false (by omega)) rfl ?_ | refine O.cmp rfl rfl rfl rfl rfl ?_
      refine O.nil ?_
      try refine Run.keep [0, 1, 2, 4, 5, 6, 7, 8, 9, 13, 22, 23, 24, 25, 31] rfl rfl ?_
      repeat (first | refine Run.seq ?_ | refine Run.skip ?_)
      first | refine Run.condT rfl rfl ?_ | refine Run.condF rfl rfl ?_ | refine Run.condT rfl (by assumption) ?_ | refine Run.condF rfl (by assumption) ?_
      repeat (first | refine Run.seq ?_ | refine Run.skip ?_ | refine Run.block ?_)
      refine Run.region ?_
      refine O.move rfl rfl ?_
      refine O.index hE T24 rfl T70 rfl rfl newest_pv rfl (by omega) hat rfl rfl rfl ?_
      refine O.loadEA hE T70 rfl rfl (by simp [PV.cells, w3]) rfl ?_
      refine O.alloc hE 9 T70 rfl rfl rfl ?_
      refine O.assign rfl rfl ?_
      refine O.storeS hE T70 rfl rfl (cells_put pl S) rfl (by simp [w3]) (by simp [w3]) (setAt_all _ _ (by simp [w3])) ?_
      refine O.nil ?_
      try refine Run.keep [0, 1, 2, 4, 5, 6, 7, 8, 9, 13, 22, 23, 24, 25, 31] rfl rfl ?_
      repeat (first | refine Run.seq ?_ | refine Run.skip ?_ | refine Run.block ?_)
      refine Run.region ?_
      refine O.move rfl rfl ?_
      refine O.move rfl rfl ?_
      refine O.lend (bx' := [(9, .var (.pv (.int .i64 pl) :: cel S)), (7, .var [.vrow 16 0 Ls.length, .pv .nil]), (16, .var ((flat (X.map secE)).map .pv)), (4, .var [.pv .nil, .pv .nil])]) (ln := [3]) cj rfl rfl rfl (.inl rfl) (by repeat (first | exact BxIn.nil | refine BxIn.cons rfl ?_)) rfl rfl rfl rfl rfl rfl rfl rfl (by simp only [mbx, menB, mens2, mens2_pvs]; rfl) rfl ?_
      refine O.nil ?_
      try refine Run.keep [0, 1, 2, 4, 5, 6, 7, 8, 9, 13, 22, 23, 24, 25, 31] rfl rfl ?_
      repeat (first | refine Run.seq ?_ | refine Run.skip ?_)
      first | refine Run.condT rfl rfl ?_ | refine Run.condF rfl rfl ?_ | refine Run.condT rfl (by assumption) ?_ | refine Run.condF rfl (by assumption) ?_
      repeat (first | refine Run.seq ?_ | refine Run.skip ?_ | refine Run.block ?_)
      refine Run.region ?_
      refine O.field hE L26 rfl rfl rfl rfl ?_
      first | refine O.loadS hE T23 rfl rfl rfl (by rfl) rfl ?_ | refine O.loadE hE T23 rfl rfl (by rfl) rfl ?_ | refine O.load hE T23 rfl rfl rfl rfl ?_
      refine O.field hE L70 rfl rfl rfl rfl ?_
      first | refine O.loadS hE T3 rfl rfl rfl (by rfl) rfl ?_ | refine O.loadE hE T3 rfl rfl (by rfl) rfl ?_ | refine O.load hE T3 rfl rfl rfl rfl ?_
      refine O.field hE L70 rfl rfl rfl rfl ?_
      refine O.loadA (q := cel S) hE T64 rfl rfl rfl (show List.take 32 (cel S) = cel S from List.take_of_length_le (by simp [w3])) (by simp [w3]) rfl ?_
      refine O.indexRow hE T23 rfl T64 rfl rfl w1 (by omega) (show 0 + pl.toNat * 32 = pl.toNat * 32 by omega) rfl ?_
      refine O.storeS hE T64 rfl rfl (cells_cel S) rfl (by simp [w3]) hble hset ?_
      refine O.nil ?_
      try refine Run.keep [0, 1, 2, 4, 5, 6, 7, 8, 9, 13, 22, 23, 24, 25, 31] rfl rfl ?_
      repeat (first | refine Run.seq ?_ | refine Run.skip ?_ | refine Run.block ?_)
      refine Run.region ?_
      first | refine O.ar rfl rfl rfl (by exact wrap_i64 (by omega) (by omega)) rfl ?_ | refine O.ar rfl rfl rfl rfl rfl ?_
      refine O.move rfl rfl ?_
      refine O.nil ?_
      try refine Run.keep [0, 1, 2, 4, 5, 6, 7, 8, 9, 13, 22, 23, 24, 25, 31] rfl rfl ?_
      refine ih (j + 1) _ ?_ (by omega) (by omega)
      rw [hstep]
      exact SLe.drop (by repeat (first | exact TmIn.nil | refine TmIn.cons rfl ?_)) (by repeat (first | exact BxIn.nil | refine BxIn.cons rfl ?_)) rfl (by simp only [mbx, menB, mens2_pvs]; rfl)
    | false =>
      rw [hP, if_neg (by decide)] at hstep
      have cj := crash1 (g := g) keep j
      rw [hP] at cj
      repeat (first | refine Run.seq ?_ | refine Run.skip ?_ | refine Run.block ?_)
      refine Run.region ?_
      first | refine O.cmp rfl rfl rfl (by first | exact decide_eq_true (by omega) | exact decide_eq_false (by omega)) rfl ?_ | refine O.cmp rfl rfl rfl rfl rfl ?_
      refine O.nil ?_
      try refine Run.keep [0, 1, 2, 4, 5, 6, 7, 8, 9, 13, 22, 23, 24, 25, 31] rfl rfl ?_
      repeat (first | refine Run.seq ?_ | refine Run.skip ?_)
      first | refine Run.condT rfl rfl ?_ | refine Run.condF rfl rfl ?_ | refine Run.condT rfl (by assumption) ?_ | refine Run.condF rfl (by assumption) ?_
      repeat (first | refine Run.seq ?_ | refine Run.skip ?_ | refine Run.block ?_)
      refine Run.region ?_
      refine O.move rfl rfl ?_
      refine O.index hE T24 rfl T70 rfl rfl newest_pv rfl (by omega) hat rfl rfl rfl ?_
      refine O.loadEA hE T70 rfl rfl (by simp [PV.cells, w3]) rfl ?_
      refine O.alloc hE 9 T70 rfl rfl rfl ?_
      refine O.assign rfl rfl ?_
      refine O.storeS hE T70 rfl rfl (cells_put pl S) rfl (by simp [w3]) (by simp [w3]) (setAt_all _ _ (by simp [w3])) ?_
      refine O.nil ?_
      try refine Run.keep [0, 1, 2, 4, 5, 6, 7, 8, 9, 13, 22, 23, 24, 25, 31] rfl rfl ?_
      repeat (first | refine Run.seq ?_ | refine Run.skip ?_ | refine Run.block ?_)
      refine Run.region ?_
      refine O.move rfl rfl ?_
      refine O.move rfl rfl ?_
      refine O.lend (bx' := [(9, .var (.pv (.int .i64 pl) :: cel S)), (7, .var [.vrow 16 0 Ls.length, .pv .nil]), (16, .var ((flat (X.map secE)).map .pv)), (4, .var [.pv .nil, .pv .nil])]) (ln := [3]) cj rfl rfl rfl (.inl rfl) (by repeat (first | exact BxIn.nil | refine BxIn.cons rfl ?_)) rfl rfl rfl rfl rfl rfl rfl rfl (by simp only [mbx, menB, mens2, mens2_pvs]; rfl) rfl ?_
      refine O.nil ?_
      try refine Run.keep [0, 1, 2, 4, 5, 6, 7, 8, 9, 13, 22, 23, 24, 25, 31] rfl rfl ?_
      repeat (first | refine Run.seq ?_ | refine Run.skip ?_)
      first | refine Run.condT rfl rfl ?_ | refine Run.condF rfl rfl ?_ | refine Run.condT rfl (by assumption) ?_ | refine Run.condF rfl (by assumption) ?_
      repeat (first | refine Run.seq ?_ | refine Run.skip ?_ | refine Run.block ?_)
      refine Run.region ?_
      first | refine O.ar rfl rfl rfl (by exact wrap_i64 (by omega) (by omega)) rfl ?_ | refine O.ar rfl rfl rfl rfl rfl ?_
      refine O.move rfl rfl ?_
      refine O.nil ?_
      try refine Run.keep [0, 1, 2, 4, 5, 6, 7, 8, 9, 13, 22, 23, 24, 25, 31] rfl rfl ?_
      refine ih (j + 1) _ ?_ (by omega) (by omega)
      rw [hstep]
      exact SLe.drop (by repeat (first | exact TmIn.nil | refine TmIn.cons rfl ?_)) (by repeat (first | exact BxIn.nil | refine BxIn.cons rfl ?_)) rfl (by simp only [mbx, menB, mens2_pvs]; rfl)
  obtain rfl : j = Ws.length := by omega
  have hln := hlen Ws.length
  have hsn := hsec Ws.length
  repeat (first | refine Run.seq ?_ | refine Run.skip ?_ | refine Run.block ?_)
  refine Run.region ?_
  first | refine O.cmp rfl rfl rfl (by first | exact decide_eq_true (by omega) | exact decide_eq_false (by omega)) rfl ?_ | refine O.cmp rfl rfl rfl rfl rfl ?_
  refine O.nil ?_
  try refine Run.keep [0, 1, 2, 4, 5, 6, 7, 8, 9, 13, 22, 23, 24, 25, 31] rfl rfl ?_
  repeat (first | refine Run.seq ?_ | refine Run.skip ?_)
  first | refine Run.condT rfl rfl ?_ | refine Run.condF rfl rfl ?_ | refine Run.condT rfl (by assumption) ?_ | refine Run.condF rfl (by assumption) ?_
  refine Run.exit ?_
  repeat (first | refine thenR_exit ?_ | refine roundR_exit ?_ | refine blockR_exit ?_ | refine blockR_pass rfl ?_)
  generalize fl (kB keep) Ls Ws Ws.length = X at *
  repeat (first | refine Run.seq ?_ | refine Run.skip ?_ | refine Run.block ?_)
  refine Run.region ?_
  refine O.load hE T26 rfl rfl rfl rfl ?_
  refine O.store hE T26 rfl rfl rfl rfl rfl rfl ?_
  refine O.assign rfl rfl ?_
  refine O.nil ?_
  try refine Run.keep [0, 1, 2, 4, 5, 6, 7, 8, 9, 13, 22, 23, 24, 25, 31] rfl rfl ?_
  refine Run.ret ?_
  repeat (first | refine thenR_ret ?_ | refine roundR_ret ?_ | refine blockR_ret ?_)
  exact Ends.of hE (.inr rfl) rfl rfl (SLe.trans (SLe.freezeR (tm' := [(0, .tup [.agg [.pv (.lst 32 (X.map secE)), .pv .nil], .pv (.int .i64 0)])]) (bx' := [(3, .var [.pv (.int .i64 keep)])]) 16 rfl (TmZ.cons rfl (FzV.tups (.cons (FzV.aggs (.cons (.row (sz := 32) (flat_sec_take hsn hln) (by simp [hln]) (fun e he => by obtain ⟨S, hS, rfl⟩ := List.mem_map.1 he; simp [PV.cells, hsn S hS]) (fun e he x hx => by obtain ⟨S, _, rfl⟩ := List.mem_map.1 he; simp only [PV.cells] at hx; obtain ⟨z, _, rfl⟩ := List.mem_map.1 hx; rfl)) (.cons (.same _) .nil))) (.cons (.same _) .nil))) .nil) (BxIn.cons rfl .nil) rfl rfl rfl) (SLe.by rfl (TmLe.cons (AVle.tups (.cons (AVle.aggs (.cons (AVle.of_eq rfl) (.cons (AVle.nil 33) .nil))) (.cons (AVle.of_eq rfl) .nil))) .nil) (BxsLe.cons rfl (.refl _) .nil) rfl rfl))
theorem fnDCrash {Ls : List (List Int)} {Ws : List Pt} (h : DOk Ls Ws) (keep : Int) : FnC (En Try.prog g) 11 [dskA Ls Ws, .pv (.int .i64 keep)] (.tup [dskA (fl (kB keep) Ls Ws Ws.length) [], .pv (.int .i64 0)]) [] := by
  have hE := EnOk g
  have c1 := fnFallC (g := g) h keep
  generalize fl (kB keep) Ls Ws Ws.length = X at *
  refine FnC.of Try.func11 rfl rfl rfl rfl ?_
  repeat (first | refine Run.seq ?_ | refine Run.skip ?_ | refine Run.block ?_)
  refine Run.region ?_
  refine O.box 2 rfl (by first | rfl | exact cells_ones (by simp [ones_app, ones_ints, ones, AV.one, PV.one])) rfl rfl ?_
  refine O.box 3 rfl (by first | rfl | exact cells_ones (by simp [ones_app, ones_ints, ones, AV.one, PV.one])) rfl rfl ?_
  refine O.alloc hE 4 T26 rfl rfl rfl ?_
  refine O.assign rfl rfl ?_
  refine O.nil ?_
  try refine Run.keep [0, 1, 2, 3, 4, 5] rfl rfl ?_
  repeat (first | refine Run.seq ?_ | refine Run.skip ?_ | refine Run.block ?_)
  refine Run.region ?_
  refine O.load hE T26 rfl rfl rfl rfl ?_
  refine O.makeFunc rfl rfl ?_
  refine O.lend (ln := [3]) c1 rfl rfl rfl (.inr (fun x hx => by rcases List.mem_cons.1 hx with rfl | hx <;> first | rfl | (rw [List.mem_singleton.1 hx]; rfl))) (by repeat (first | exact BxIn.nil | refine BxIn.cons rfl ?_)) rfl rfl rfl rfl rfl rfl rfl rfl rfl rfl ?_
  refine O.extract rfl rfl rfl ?_
  refine O.extract rfl rfl rfl ?_
  refine O.store hE T26 rfl rfl rfl rfl rfl rfl ?_
  refine O.assign rfl rfl ?_
  refine O.nil ?_
  try refine Run.keep [0, 1, 2, 3, 4, 5] rfl rfl ?_
  (repeat (first | refine Run.seq ?_ | refine Run.skip ?_)); (try refine Run.ret ?_); first | exact Ends.flat hE (.inr rfl) rfl rfl (AVle.of_eq rfl) rfl | exact Ends.flat hE (.inl rfl) rfl rfl (AVle.of_eq rfl) rfl
end Go.Proofs.Ytalcpfpjkfpmbaa.Vm
