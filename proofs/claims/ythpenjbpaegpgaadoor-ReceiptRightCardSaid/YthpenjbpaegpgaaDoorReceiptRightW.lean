/- ReceiptRight: its walk. Conditions: the table of steps has 64 words. -/
import Derived.Test.YthpenjbpaegpgaaDoorAuditW
namespace Go.Proofs.YthpenjbpaegpgaaDoor.Vm
open Go Go.RowKit
set_option linter.unusedVariables false
set_option linter.unusedSimpArgs false
attribute [local irreducible] Ops Dr Run digP rootP pathP leafP dataP entryP
variable {g : Nat → Option (List PV)}
theorem salts_ex {T : List Int → List Int → List Int} (hT : Feeds g T) {mode : Int} (hm : mode = 1 ∨ mode = 2) : ∃ S : Int → List Int, ∀ i, (S i).length ≤ 80 ∧ FnC (En Tryd.prog g) 16 [.pv (.int .i64 mode), .pv (bys [115]), .pv (.int .i64 i), .pv (.int .i64 76)] (.tup [.pv (bys (S i)), .pv (.int .i64 0)]) [] := by
  have h : ∀ i : Int, ∃ c : List Int, c.length ≤ 80 ∧ FnC (En Tryd.prog g) 16 [.pv (.int .i64 mode), .pv (bys [115]), .pv (.int .i64 i), .pv (.int .i64 76)] (.tup [.pv (bys c), .pv (.int .i64 0)]) [] := by
    intro i
    rcases hm with rfl | rfl
    · obtain ⟨c, h1, h2⟩ := fnSaltHashed hT (sec := [115]) (by decide) i 76
      exact ⟨c, by omega, h2⟩
    · exact ⟨_, by simp [saltOpen, frameL, fourL_len, eightL_len], fnSaltOpen (g := g) (sec := [115]) (by decide) i 76⟩
  exact ⟨fun i => Classical.choose (h i), fun i => Classical.choose_spec (h i)⟩
theorem cleans_ex : ∃ C : ByteArray → ByteArray, ∀ s, ((C s).size : Int) ≤ 40 ∧ FnC (En Tryd.prog g) 13 [.pv (.str s), .pv (.int .i64 40)] (.pv (.str (C s))) [] := by
  have h : ∀ s, ∃ t : ByteArray, (t.size : Int) ≤ 40 ∧ FnC (En Tryd.prog g) 13 [.pv (.str s), .pv (.int .i64 40)] (.pv (.str t)) [] := fun s => clean_ex (g := g) s (by decide) (by decide)
  exact ⟨fun s => Classical.choose (h s), fun s => Classical.choose_spec (h s)⟩
theorem noted_ex {T : List Int → List Int → List Int} (hT : Feeds g T) {mode : Int} (hm : mode = 1 ∨ mode = 2) {rs : List Rw} (hl : (rs.length : Int) ≤ 9223372036854775807) : ∃ (X : Nat → List Int) (Y : Nat → Sl), (∀ i, (X i).length = 2 ∧ Sok (Y i)) ∧
    FnC (En Tryd.prog g) 6 [.pv (.int .i64 mode), .pv (.lst 4 (rs.map rawE))] (.tup [.pv (.lst 1 (((List.range (rs.take 12).length).map fun i => entryP (digP T mode) (X i) (Y i)).map bys)), .pv (.lst 1 (((List.range (rs.take 12).length).map X).map bys)), .pv (.lst 3 (((List.range (rs.take 12).length).map Y).map slE)), .pv (.bool true)]) [] := by
  have hE := EnOk g
  obtain ⟨S, hS⟩ := salts_ex hT hm
  obtain ⟨C, hC⟩ := cleans_ex (g := g)
  have c1 := fnSome (g := g) (rs := rs) (m := 12) (by omega) hl
  rw [show (12 : Int).toNat = 12 from rfl] at c1
  have hl12 : (rs.take 12).length ≤ 12 := by rw [List.length_take]; omega
  generalize rs.take 12 = R at *
  have hlen : (R.map rawE).length = R.length := by simp
  obtain ⟨Q, hQ⟩ : ∃ Q : Nat → Rw, ∀ i, Q i = (R[i]?).getD ⟨0, 0, 0, ByteArray.empty⟩ := ⟨_, fun _ => rfl⟩
  obtain ⟨X, hX⟩ : ∃ X : Nat → List Int, ∀ i, X i = [IntKind.u8.wrap (Q i).a, IntKind.u8.wrap (Q i).b] := ⟨_, fun _ => rfl⟩
  obtain ⟨Y, hY⟩ : ∃ Y : Nat → Sl, ∀ i, Y i = ⟨true, S i, dataP (digP T mode) ((Q i).a % 3) ((Q i).b % 13) (C (Q i).s)⟩ := ⟨_, fun _ => rfl⟩
  have hok : ∀ i, (X i).length = 2 ∧ Sok (Y i) := fun i => ⟨by rw [hX]; rfl, by
    rw [hY]
    have h1 := (hS i).1
    have h2 := data_len (T := T) (mode := mode) (u := (Q i).a % 3) (e := (Q i).b % 13) (t := C (Q i).s) (hC _).1
    exact ⟨h1, h2, fun h => by cases h⟩⟩
  refine ⟨X, Y, hok, ?_⟩
  obtain ⟨Z, hZ⟩ : ∃ Z : Nat → List Int, ∀ i, Z i = entryP (digP T mode) (X i) (Y i) := ⟨_, fun _ => rfl⟩
  rw [show (fun i => entryP (digP T mode) (X i) (Y i)) = Z from funext fun i => (hZ i).symm]
  have hZpos : ∀ i, 0 < (Z i).length := fun i => by rw [hZ]; unfold entryP; exact digP_pos _ _
  refine FnC.of Tryd.func6 rfl rfl rfl rfl ?_
  repeat (first | refine Run.seq ?_ | refine Run.skip ?_ | refine Run.block ?_)
  refine Run.region ?_
  refine O.assign rfl rfl ?_
  refine O.assign rfl rfl ?_
  refine O.assign rfl rfl ?_
  refine O.assign rfl rfl ?_
  refine O.nil ?_
  try refine Run.keep [0, 1, 4, 5, 6, 7, 8, 9, 10, 11, 12, 13, 14, 15, 16, 17, 18, 19, 20, 21, 23, 24, 25, 26] rfl rfl ?_
  repeat (first | refine Run.seq ?_ | refine Run.skip ?_ | refine Run.block ?_)
  refine Run.region ?_
  refine O.assign rfl rfl ?_
  refine O.assign rfl rfl ?_
  refine O.nil ?_
  try refine Run.keep [0, 1, 4, 5, 6, 7, 8, 9, 10, 11, 12, 13, 14, 15, 16, 17, 18, 19, 20, 21, 23, 24, 25, 26] rfl rfl ?_
  repeat (first | refine Run.seq ?_ | refine Run.skip ?_ | refine Run.block ?_)
  refine Run.region ?_
  refine O.assign rfl rfl ?_
  refine O.nil ?_
  try refine Run.keep [0, 1, 4, 5, 6, 7, 8, 9, 10, 11, 12, 13, 14, 15, 16, 17, 18, 19, 20, 21, 23, 24, 25, 26] rfl rfl ?_
  repeat (first | refine Run.seq ?_ | refine Run.skip ?_ | refine Run.block ?_)
  refine Run.region ?_
  refine O.assign rfl rfl ?_
  refine O.nil ?_
  try refine Run.keep [0, 1, 4, 5, 6, 7, 8, 9, 10, 11, 12, 13, 14, 15, 16, 17, 18, 19, 20, 21, 23, 24, 25, 26] rfl rfl ?_
  refine Run.pre (SLe.nilBox (t := 8) (b := 108) (e := 31) (sz := 1) rfl rfl rfl rfl) ?_
  refine Run.pre (SLe.nilBox (t := 9) (b := 109) (e := 31) (sz := 1) rfl rfl rfl rfl) ?_
  refine Run.pre (SLe.nilBox (t := 10) (b := 110) (e := 40) (sz := 3) rfl rfl rfl rfl) ?_
  repeat (first | refine Run.seq ?_ | refine Run.skip ?_ | refine Run.block ?_)
  refine Run.region ?_
  refine O.move rfl rfl ?_
  refine O.callE c1 rfl (by first | rfl | simp [closed, men3, mens2_app, mens2_ints, mens2, men2, men1, mens1_app, mens1_ints, mens1]) (by first | rfl | simp [d2, ds1_ints, ds1_app, ds1, d1, ds0_app, ds0_ints, ds0, d0]) rfl ?_
  first | refine O.lenN hE T22 rfl rfl rfl (by first | exact newest_pv | exact newest_gl rfl rfl | trivial) lenC rfl ?_ | refine O.lenLst hE T22 rfl rfl rfl (by first | exact newest_pv | exact newest_gl rfl rfl | trivial) rfl ?_
  refine O.move rfl rfl ?_
  refine O.nil ?_
  try refine Run.keep [0, 1, 4, 5, 6, 7, 8, 9, 10, 11, 12, 13, 14, 15, 16, 17, 18, 19, 20, 21, 23, 24, 25, 26] rfl rfl ?_
  repeat (first | refine Run.seq ?_ | refine Run.skip ?_)
  refine Run.block ?_
  refine Run.loopInv (ι := Nat) (fun j => j ≤ R.length)
    (fun j => ⟨104, [(0, .pv (.int .i64 mode)), (8, .gl 108 ((List.range j).map Z).length), (9, .gl 109 ((List.range j).map X).length), (10, .gl 110 ((List.range j).map Y).length), (11, .pv (.bool true)), (23, .pv (.lst 4 (R.map rawE))), (24, .pv (.int .i64 R.length)), (25, .pv (.int .i64 j))],
      [(108, .lst 31 1 (((List.range j).map Z).map bys)), (109, .lst 31 1 (((List.range j).map X).map bys)), (110, .lst 40 3 (((List.range j).map Y).map slE))]⟩) (fun j => R.length - j) 0 (by omega) ?_ ?_
  ·
    refine SLe.eqv (by repeat (first | exact TmIn.nil | refine TmIn.cons rfl ?_)) (by repeat (first | exact BxIn.nil | refine BxIn.cons rfl ?_)) rfl
  rintro j hj ih
  by_cases hlt : j < R.length
  ·
    have hat : (R.map rawE)[(j : Int).toNat]? = some (rawE (Q j)) := by
      rw [Int.toNat_natCast, List.getElem?_map, hQ, List.getElem?_eq_getElem hlt]; rfl
    have t1 : (List.range (j + 1)).map Z = (List.range j).map Z ++ [Z j] := by rw [List.range_succ, List.map_append]; rfl
    have t2 : (List.range (j + 1)).map X = (List.range j).map X ++ [X j] := by rw [List.range_succ, List.map_append]; rfl
    have t3 : (List.range (j + 1)).map Y = (List.range j).map Y ++ [Y j] := by rw [List.range_succ, List.map_append]; rfl
    have c2 := (hS (j : Int)).2
    have c3 := fnPick (g := g) (a := (Q j).a) (m := 3) (by omega) (by omega)
    have c4 := fnPick (g := g) (a := (Q j).b) (m := 13) (by omega) (by omega)
    have c5 := (hC (Q j).s).2
    have c6 := fnData hT (mode := mode) (u := (Q j).a % 3) (e := (Q j).b % 13) (t := C (Q j).s) hm (by omega) (by omega) (by have := (hC (Q j).s).1; omega)
    have c7 := fnEntry hT hm (hok j).2 (hok j).1
    rw [← hZ j] at c7
    have hzp := hZpos j
    have hZm : ((Z j).map (PV.int .u8)).length = (Z j).length := by simp
    rw [hX j] at t2 c7
    rw [hY j] at t3 c7
    generalize Q j = r at *
    obtain ⟨kd, a, b, s⟩ := r
    dsimp only [slA] at c3 c4 c5 c6 c7 t2 t3 hat
    generalize dataP (digP T mode) (a % 3) (b % 13) (C s) = dt at *
    generalize Z j = z at *
    generalize S (j : Int) = sa at *
    repeat (first | refine Run.seq ?_ | refine Run.skip ?_ | refine Run.block ?_)
    refine Run.region ?_
    first | refine O.cmp rfl rfl rfl (by first | exact decide_eq_true (by omega) | exact decide_eq_false (by omega)) rfl ?_ | refine O.cmp rfl rfl rfl rfl rfl ?_
    refine O.nil ?_
    try refine Run.keep [0, 1, 4, 5, 6, 7, 8, 9, 10, 11, 12, 13, 14, 15, 16, 17, 18, 19, 20, 21, 23, 24, 25, 26] rfl rfl ?_
    repeat (first | refine Run.seq ?_ | refine Run.skip ?_)
    first | refine Run.condT rfl rfl ?_ | refine Run.condF rfl rfl ?_ | refine Run.condT rfl (by assumption) ?_ | refine Run.condF rfl (by assumption) ?_
    repeat (first | refine Run.seq ?_ | refine Run.skip ?_ | refine Run.block ?_)
    refine Run.region ?_
    refine O.move rfl rfl ?_
    refine O.index hE T22 rfl T29 rfl rfl newest_pv rfl (by omega) hat rfl rfl rfl ?_
    refine O.load hE T29 rfl rfl rfl rfl ?_
    refine O.alloc hE 13 T29 rfl rfl rfl ?_
    refine O.assign rfl rfl ?_
    refine O.store hE T29 rfl rfl rfl rfl rfl rfl ?_
    refine O.nil ?_
    try refine Run.keep [0, 1, 4, 5, 6, 7, 8, 9, 10, 11, 12, 13, 14, 15, 16, 17, 18, 19, 20, 21, 23, 24, 25, 26] rfl rfl ?_
    repeat (first | refine Run.seq ?_ | refine Run.skip ?_ | refine Run.block ?_)
    refine Run.region ?_
    refine O.move rfl rfl ?_
    refine O.lit2 hE T31 rfl T5 rfl rfl rfl rfl rfl rfl rfl rfl rfl ?_
    refine O.move rfl rfl ?_
    refine O.callE c2 rfl (by first | rfl | simp [closed, men3, mens2_app, mens2_ints, mens2, men2, men1, mens1_app, mens1_ints, mens1]) (by first | rfl | simp [d2, ds1_ints, ds1_app, ds1, d1, ds0_app, ds0_ints, ds0, d0]) rfl ?_
    refine O.move rfl rfl ?_
    refine O.extract rfl rfl rfl ?_
    refine O.extract rfl rfl rfl ?_
    refine O.assign rfl rfl ?_
    refine O.assign rfl rfl ?_
    refine O.nil ?_
    try refine Run.keep [0, 1, 4, 5, 6, 7, 8, 9, 10, 11, 12, 13, 14, 15, 16, 17, 18, 19, 20, 21, 23, 24, 25, 26] rfl rfl ?_
    repeat (first | refine Run.seq ?_ | refine Run.skip ?_ | refine Run.block ?_)
    refine Run.draw mixed rfl ?_
    refine D.move rfl rfl ?_
    refine D.field hE L29 rfl rfl rfl rfl ?_
    first | refine D.loadS hE T3 rfl rfl rfl (by rfl) rfl ?_ | refine D.loadE hE T3 rfl rfl (by rfl) rfl ?_ | refine D.load hE T3 rfl rfl rfl rfl ?_
    refine D.callE c3 rfl (by first | rfl | simp [closed, men3, mens2_app, mens2_ints, mens2, men2, men1, mens1_app, mens1_ints, mens1]) (by first | rfl | simp [d2, ds1_ints, ds1_app, ds1, d1, ds0_app, ds0_ints, ds0, d0]) rfl ?_
    refine D.field hE L29 rfl rfl rfl rfl ?_
    first | refine D.loadS hE T3 rfl rfl rfl (by rfl) rfl ?_ | refine D.loadE hE T3 rfl rfl (by rfl) rfl ?_ | refine D.load hE T3 rfl rfl rfl rfl ?_
    refine D.callE c4 rfl (by first | rfl | simp [closed, men3, mens2_app, mens2_ints, mens2, men2, men1, mens1_app, mens1_ints, mens1]) (by first | rfl | simp [d2, ds1_ints, ds1_app, ds1, d1, ds0_app, ds0_ints, ds0, d0]) rfl ?_
    refine D.field hE L29 rfl rfl rfl rfl ?_
    first | refine D.loadS hE T9 rfl rfl rfl (by rfl) rfl ?_ | refine D.loadE hE T9 rfl rfl (by rfl) rfl ?_ | refine D.load hE T9 rfl rfl rfl rfl ?_
    refine D.callE c5 rfl (by first | rfl | simp [closed, men3, mens2_app, mens2_ints, mens2, men2, men1, mens1_app, mens1_ints, mens1]) (by first | rfl | simp [d2, ds1_ints, ds1_app, ds1, d1, ds0_app, ds0_ints, ds0, d0]) rfl ?_
    refine D.callE c6 rfl (by first | rfl | simp [closed, men3, mens2_app, mens2_ints, mens2, men2, men1, mens1_app, mens1_ints, mens1]) (by first | rfl | simp [d2, ds1_ints, ds1_app, ds1, d1, ds0_app, ds0_ints, ds0, d0]) rfl ?_
    refine D.move rfl rfl ?_
    refine D.extract rfl rfl rfl ?_
    refine D.extract rfl rfl rfl ?_
    refine D.assign rfl rfl ?_
    refine D.assign rfl rfl ?_
    refine Dr.nil ?_
    refine ⟨rfl, ?_⟩
    try refine Run.keep [0, 1, 4, 5, 6, 7, 8, 9, 10, 11, 12, 13, 14, 15, 16, 17, 18, 19, 20, 21, 23, 24, 25, 26] rfl rfl ?_
    repeat (first | refine Run.seq ?_ | refine Run.skip ?_ | refine Run.block ?_)
    refine Run.region ?_
    refine O.move rfl rfl ?_
    refine O.move rfl rfl ?_
    refine O.build hE T40 L40 rfl rfl rfl ?_
    refine O.alloc hE 18 T40 rfl rfl rfl ?_
    refine O.store hE T40 rfl rfl rfl rfl rfl rfl ?_
    refine O.nil ?_
    try refine Run.keep [0, 1, 4, 5, 6, 7, 8, 9, 10, 11, 12, 13, 14, 15, 16, 17, 18, 19, 20, 21, 23, 24, 25, 26] rfl rfl ?_
    repeat (first | refine Run.seq ?_ | refine Run.skip ?_ | refine Run.block ?_)
    refine Run.region ?_
    refine O.field hE L29 rfl rfl rfl rfl ?_
    first | refine O.loadS hE T3 rfl rfl rfl (by rfl) rfl ?_ | refine O.loadE hE T3 rfl rfl (by rfl) rfl ?_ | refine O.load hE T3 rfl rfl rfl rfl ?_
    refine O.conv hE T3 T5 rfl rfl rfl ?_
    refine O.field hE L29 rfl rfl rfl rfl ?_
    first | refine O.loadS hE T3 rfl rfl rfl (by rfl) rfl ?_ | refine O.loadE hE T3 rfl rfl (by rfl) rfl ?_ | refine O.load hE T3 rfl rfl rfl rfl ?_
    refine O.conv hE T3 T5 rfl rfl rfl ?_
    refine O.litV hE T31 rfl T5 rfl rfl rfl rfl rfl rfl rfl ?_
    refine O.assign rfl rfl ?_
    refine O.nil ?_
    try refine Run.keep [0, 1, 4, 5, 6, 7, 8, 9, 10, 11, 12, 13, 14, 15, 16, 17, 18, 19, 20, 21, 23, 24, 25, 26] rfl rfl ?_
    repeat (first | refine Run.seq ?_ | refine Run.skip ?_ | refine Run.block ?_)
    refine Run.region ?_
    refine O.move rfl rfl ?_
    refine O.move rfl rfl ?_
    refine O.load hE T40 rfl rfl rfl rfl ?_
    refine O.callE c7 rfl (by first | rfl | simp [closed, men3, mens2_app, mens2_ints, mens2, men2, men1, mens1_app, mens1_ints, mens1]) (by first | rfl | simp [d2, ds1_ints, ds1_app, ds1, d1, ds0_app, ds0_ints, ds0, d0]) rfl ?_
    refine O.move rfl rfl ?_
    refine O.extract rfl rfl rfl ?_
    refine O.extract rfl rfl rfl ?_
    refine O.assign rfl rfl ?_
    refine O.assign rfl rfl ?_
    refine O.nil ?_
    try refine Run.keep [0, 1, 4, 5, 6, 7, 8, 9, 10, 11, 12, 13, 14, 15, 16, 17, 18, 19, 20, 21, 23, 24, 25, 26] rfl rfl ?_
    repeat (first | refine Run.seq ?_ | refine Run.skip ?_ | refine Run.block ?_)
    refine Run.region ?_
    refine O.move rfl rfl ?_
    refine O.move rfl rfl ?_
    first | (refine O.yes rfl rfl (by first | rfl | assumption) ?_; refine O.move rfl rfl ?_) | refine O.no rfl rfl rfl rfl ?_
    first | (refine O.yes rfl rfl (by first | rfl | assumption) ?_; first | refine O.cmp rfl rfl rfl (by first | exact decide_eq_true (by omega) | exact decide_eq_false (by omega)) rfl ?_ | refine O.cmp rfl rfl rfl rfl rfl ?_) | refine O.no rfl rfl rfl rfl ?_
    refine O.pick rfl rfl rfl rfl rfl ?_
    refine O.move rfl rfl ?_
    first | (refine O.yes rfl rfl (by first | rfl | assumption) ?_; refine O.move rfl rfl ?_) | refine O.no rfl rfl rfl rfl ?_
    first | (refine O.yes rfl rfl (by first | rfl | assumption) ?_; first | refine O.cmp rfl rfl rfl (by first | exact decide_eq_true (by omega) | exact decide_eq_false (by omega)) rfl ?_ | refine O.cmp rfl rfl rfl rfl rfl ?_) | refine O.no rfl rfl rfl rfl ?_
    refine O.pick rfl rfl rfl rfl rfl ?_
    refine O.move rfl rfl ?_
    first | (refine O.yes rfl rfl (by first | rfl | assumption) ?_; refine O.move rfl rfl ?_) | refine O.no rfl rfl rfl rfl ?_
    first | (refine O.yes rfl rfl (by first | rfl | assumption) ?_; first | refine O.cmp rfl rfl rfl (by first | exact decide_eq_true (by omega) | exact decide_eq_false (by omega)) rfl ?_ | refine O.cmp rfl rfl rfl rfl rfl ?_) | refine O.no rfl rfl rfl rfl ?_
    refine O.pick rfl rfl rfl rfl rfl ?_
    refine O.move rfl rfl ?_
    first | (refine O.yes rfl rfl (by first | rfl | assumption) ?_; refine O.move rfl rfl ?_) | refine O.no rfl rfl rfl rfl ?_
    first | (refine O.yes rfl rfl (by first | rfl | assumption) ?_; first | refine O.lenN hE T31 rfl rfl rfl (by first | exact newest_pv | exact newest_gl rfl rfl | trivial) lenC rfl ?_ | refine O.lenLst hE T31 rfl rfl rfl (by first | exact newest_pv | exact newest_gl rfl rfl | trivial) rfl ?_) | refine O.no rfl rfl rfl rfl ?_
    first | (refine O.yes rfl rfl (by first | rfl | assumption) ?_; first | refine O.cmp rfl rfl rfl (by first | exact decide_eq_true (by omega) | exact decide_eq_false (by omega)) rfl ?_ | refine O.cmp rfl rfl rfl rfl rfl ?_) | refine O.no rfl rfl rfl rfl ?_
    refine O.pick rfl rfl rfl rfl rfl ?_
    refine O.assign rfl rfl ?_
    refine O.nil ?_
    try refine Run.keep [0, 1, 4, 5, 6, 7, 8, 9, 10, 11, 12, 13, 14, 15, 16, 17, 18, 19, 20, 21, 23, 24, 25, 26] rfl rfl ?_
    repeat (first | refine Run.seq ?_ | refine Run.skip ?_ | refine Run.block ?_)
    refine Run.draw mixed rfl ?_
    refine D.move rfl rfl ?_
    refine D.move rfl rfl ?_
    refine D.litV hE T24 rfl T31 rfl rfl rfl rfl rfl rfl rfl ?_
    refine D.appM bys (q := (List.range j).map Z) (r := [z]) hE T24 rfl T31 rfl rfl rfl rfl rfl newest_pv rfl rfl rfl rfl (by simp; omega) (by simp [maxLen]; omega) rfl ?_
    refine D.move rfl rfl ?_
    refine D.move rfl rfl ?_
    refine D.litV hE T24 rfl T31 rfl rfl rfl rfl rfl rfl rfl ?_
    refine D.appM bys (q := (List.range j).map X) (r := [[IntKind.u8.wrap a, IntKind.u8.wrap b]]) hE T24 rfl T31 rfl rfl rfl rfl rfl newest_pv rfl rfl rfl rfl (by simp; omega) (by simp [maxLen]; omega) rfl ?_
    refine D.move rfl rfl ?_
    refine D.load hE T40 rfl rfl rfl rfl ?_
    refine D.litV hE T25 rfl T40 rfl rfl rfl rfl rfl rfl rfl ?_
    refine D.appM slE (q := (List.range j).map Y) (r := [⟨true, sa, dt⟩]) hE T25 rfl T40 rfl rfl rfl rfl rfl newest_pv rfl rfl rfl rfl (by simp; omega) (by simp [maxLen]; omega) rfl ?_
    refine D.assign rfl rfl ?_
    refine D.assign rfl rfl ?_
    refine D.assign rfl rfl ?_
    refine Dr.nil ?_
    refine ⟨rfl, ?_⟩
    try refine Run.keep [0, 1, 4, 5, 6, 7, 8, 9, 10, 11, 12, 13, 14, 15, 16, 17, 18, 19, 20, 21, 23, 24, 25, 26] rfl rfl ?_
    repeat (first | refine Run.seq ?_ | refine Run.skip ?_ | refine Run.block ?_)
    refine Run.region ?_
    first | refine O.ar rfl rfl rfl (by exact wrap_i64 (by omega) (by omega)) rfl ?_ | refine O.ar rfl rfl rfl rfl rfl ?_
    refine O.move rfl rfl ?_
    refine O.nil ?_
    try refine Run.keep [0, 1, 4, 5, 6, 7, 8, 9, 10, 11, 12, 13, 14, 15, 16, 17, 18, 19, 20, 21, 23, 24, 25, 26] rfl rfl ?_
    refine ih (j + 1) _ ?_ (by omega) (by omega)
    rw [t1, t2, t3]
    exact SLe.drop (by repeat (first | exact TmIn.nil | refine TmIn.cons rfl ?_)) (by repeat (first | exact BxIn.nil | refine BxIn.cons rfl ?_)) rfl rfl
  have hj' : j = R.length := by omega
  subst hj'
  repeat (first | refine Run.seq ?_ | refine Run.skip ?_ | refine Run.block ?_)
  refine Run.region ?_
  first | refine O.cmp rfl rfl rfl (by first | exact decide_eq_true (by omega) | exact decide_eq_false (by omega)) rfl ?_ | refine O.cmp rfl rfl rfl rfl rfl ?_
  refine O.nil ?_
  try refine Run.keep [0, 1, 4, 5, 6, 7, 8, 9, 10, 11, 12, 13, 14, 15, 16, 17, 18, 19, 20, 21, 23, 24, 25, 26] rfl rfl ?_
  repeat (first | refine Run.seq ?_ | refine Run.skip ?_)
  first | refine Run.condT rfl rfl ?_ | refine Run.condF rfl rfl ?_ | refine Run.condT rfl (by assumption) ?_ | refine Run.condF rfl (by assumption) ?_
  refine Run.exit ?_
  repeat (first | refine thenR_exit ?_ | refine roundR_exit ?_ | refine blockR_exit ?_ | refine blockR_pass rfl ?_)
  repeat (first | refine Run.seq ?_ | refine Run.skip ?_ | refine Run.block ?_)
  refine Run.region ?_
  refine O.move rfl rfl ?_
  refine O.move rfl rfl ?_
  refine O.move rfl rfl ?_
  refine O.move rfl rfl ?_
  refine O.assign rfl rfl ?_
  refine O.assign rfl rfl ?_
  refine O.assign rfl rfl ?_
  refine O.assign rfl rfl ?_
  refine O.nil ?_
  try refine Run.keep [0, 1, 4, 5, 6, 7, 8, 9, 10, 11, 12, 13, 14, 15, 16, 17, 18, 19, 20, 21, 23, 24, 25, 26] rfl rfl ?_
  refine Run.ret ?_
  exact Ends.of hE (.inr rfl) rfl rfl (SLe.res0 (AVle.tups (.cons (AVle.lst _ _ _ (lstOf_gl rfl (by simp))) (.cons (AVle.lst _ _ _ (lstOf_gl rfl (by simp))) (.cons (AVle.lst _ _ _ (lstOf_gl rfl (by simp))) (.cons (AVle.of_eq rfl) .nil))))) rfl)
theorem fnReceiptRight {T : List Int → List Int → List Int} (hT : Feeds g T) {rs : List Rw} (n0 at0 : Int) (hl : (rs.length : Int) ≤ 9223372036854775807) (hw : rs.length * 40 ≤ 140737488351232) : FnC (En Tryd.prog g) 3 [.pv (.int .i64 n0), .pv (.lst 4 (rs.map rawE)), .pv (.int .i64 at0)] (.pv (.bool true)) [] := by
  have hE := EnOk g
  obtain ⟨Hf, hH⟩ := halves (g := g)
  have c1 := fnModeOf (g := g) n0
  have hm := mode_ok n0
  generalize 1 + n0 % 2 = mode at *
  obtain ⟨X, Y, hok, c2⟩ := noted_ex hT hm (rs := [⟨0, 0, 0, ByteArray.empty⟩] ++ rs) (by simp; omega)
  have hn : 1 ≤ (([⟨0, 0, 0, ByteArray.empty⟩] ++ rs : List Rw).take 12).length ∧ (([⟨0, 0, 0, ByteArray.empty⟩] ++ rs : List Rw).take 12).length ≤ 12 := by
    rw [List.length_take, List.length_append]; simp; omega
  generalize (([⟨0, 0, 0, ByteArray.empty⟩] ++ rs : List Rw).take 12).length = n at *
  obtain ⟨ps, hps⟩ : ∃ ps, (List.range n).map (fun i => entryP (digP T mode) (X i) (Y i)) = ps := ⟨_, rfl⟩
  have hpl : ps.length = n := by rw [← hps]; simp
  have he : Entries ps := ⟨by omega, fun p hp => by
    rw [← hps] at hp
    obtain ⟨i, _, rfl⟩ := List.mem_map.1 hp
    have := entry_len (T := T) (mode := mode) (hok i).2 (hok i).1
    omega⟩
  have c3 := fnPick (g := g) (a := at0) (m := ps.length) (by omega) (by omega)
  have hi : 0 ≤ at0 % (ps.length : Int) ∧ at0 % (ps.length : Int) < ps.length := ⟨Int.emod_nonneg _ (by omega), Int.emod_lt_of_pos _ (by omega)⟩
  generalize at0 % (ps.length : Int) = i at *
  have hin : i.toNat < n := by omega
  have hgd : ps.getD i.toNat [] = entryP (digP T mode) (X i.toNat) (Y i.toNat) := by
    rw [← hps, List.getD_eq_getElem?_getD, List.getElem?_map, List.getElem?_range hin]; rfl
  have c4 := fnRoot hT hH hm (f := ps.length) (Nat.le_refl _) he
  have c5 := fnInclude hT hH hm (f := ps.length) (i := i) (Nat.le_refl _) he hi.1 hi.2
  have c6 := fnReceipt hT hH hm (f := ps.length) (i := i) (Nat.le_refl _) he hi.1 hi.2 (hok i.toNat).2 (hok i.toNat).1 hgd
  have c7 := fnAuditTells hT
  rw [hps] at c2
  have hat1 : (((List.range n).map X).map bys)[i.toNat]? = some (bys (X i.toNat)) := by
    rw [List.getElem?_map, List.getElem?_map, List.getElem?_range hin]; rfl
  have hat2 : (((List.range n).map Y).map slE)[i.toNat]? = some (slE (Y i.toNat)) := by
    rw [List.getElem?_map, List.getElem?_map, List.getElem?_range hin]; rfl
  generalize rootP (digP T mode) Hf ps.length ps = R at *
  generalize pathP (digP T mode) Hf ps.length ps i = L at *
  have h1 : ((List.range n).map X).length = n := by simp
  have h2 : ((List.range n).map Y).length = n := by simp
  have h3 : (((List.range n).map X).map bys).length = n := by simp
  have h4 : (((List.range n).map Y).map slE).length = n := by simp
  generalize (List.range n).map X = XS at *
  generalize (List.range n).map Y = YS at *
  generalize X i.toNat = x at *
  generalize Y i.toNat = y at *
  obtain ⟨full, salt, data⟩ := y
  dsimp only [slA] at c6
  have hpm : (ps.map bys).length = ps.length := by simp
  rw [← hpm] at c6
  refine FnC.of Tryd.func3 rfl rfl rfl rfl ?_
  repeat (first | refine Run.seq ?_ | refine Run.skip ?_ | refine Run.block ?_)
  refine Run.region ?_
  refine O.assign rfl rfl ?_
  refine O.nil ?_
  try refine Run.keep [0, 1, 2, 6, 7, 8, 9, 10, 11, 12, 13, 14, 15, 16] rfl rfl ?_
  repeat (first | refine Run.seq ?_ | refine Run.skip ?_ | refine Run.block ?_)
  refine Run.region ?_
  refine O.move rfl rfl ?_
  refine O.callE c1 rfl (by first | rfl | simp [closed, men3, mens2_app, mens2_ints, mens2, men2, men1, mens1_app, mens1_ints, mens1]) (by first | rfl | simp [d2, ds1_ints, ds1_app, ds1, d1, ds0_app, ds0_ints, ds0, d0]) rfl ?_
  refine O.assign rfl rfl ?_
  refine O.nil ?_
  try refine Run.keep [0, 1, 2, 6, 7, 8, 9, 10, 11, 12, 13, 14, 15, 16] rfl rfl ?_
  repeat (first | refine Run.seq ?_ | refine Run.skip ?_ | refine Run.block ?_)
  refine Run.region ?_
  refine O.move rfl rfl ?_
  refine O.build hE T29 L29 rfl rfl rfl ?_
  refine O.lit hE 22 T22 rfl T29 rfl rfl rfl rfl rfl rfl rfl rfl ?_
  refine O.move rfl rfl ?_
  refine O.appM rawE (q := [⟨0, 0, 0, ByteArray.empty⟩]) (r := rs) hE T22 rfl T29 rfl rfl rfl rfl rfl newest_pv rfl rfl rfl rfl (by simp; omega) (by simp [maxLen]; omega) rfl ?_
  refine O.call (bs' := []) (r' := .tup [.pv (.lst 1 (ps.map bys)), .pv (.lst 1 (XS.map bys)), .pv (.lst 3 (YS.map slE)), .pv (.bool true)]) 0 c2 (.cons (AVle.of_eq rfl) (.cons (AVle.lst _ _ _ (lstOf_gl rfl (by simp))) .nil)) rfl rfl rfl rfl rfl rfl rfl ?_
  refine O.move rfl rfl ?_
  refine O.extract rfl rfl rfl ?_
  refine O.extract rfl rfl rfl ?_
  refine O.extract rfl rfl rfl ?_
  refine O.extract rfl rfl rfl ?_
  refine O.assign rfl rfl ?_
  refine O.assign rfl rfl ?_
  refine O.assign rfl rfl ?_
  refine O.assign rfl rfl ?_
  refine O.nil ?_
  try refine Run.keep [0, 1, 2, 6, 7, 8, 9, 10, 11, 12, 13, 14, 15, 16] rfl rfl ?_
  repeat (first | refine Run.seq ?_ | refine Run.skip ?_ | refine Run.block ?_)
  refine Run.region ?_
  refine O.move rfl rfl ?_
  refine O.move rfl rfl ?_
  first | refine O.lenN hE T24 rfl rfl rfl (by first | exact newest_pv | exact newest_gl rfl rfl | trivial) lenC rfl ?_ | refine O.lenLst hE T24 rfl rfl rfl (by first | exact newest_pv | exact newest_gl rfl rfl | trivial) rfl ?_
  refine O.callE c3 rfl (by first | rfl | simp [closed, men3, mens2_app, mens2_ints, mens2, men2, men1, mens1_app, mens1_ints, mens1]) (by first | rfl | simp [d2, ds1_ints, ds1_app, ds1, d1, ds0_app, ds0_ints, ds0, d0]) rfl ?_
  refine O.assign rfl rfl ?_
  refine O.nil ?_
  try refine Run.keep [0, 1, 2, 6, 7, 8, 9, 10, 11, 12, 13, 14, 15, 16] rfl rfl ?_
  repeat (first | refine Run.seq ?_ | refine Run.skip ?_ | refine Run.block ?_)
  refine Run.region ?_
  refine O.move rfl rfl ?_
  refine O.move rfl rfl ?_
  refine O.callE c4 rfl (by first | rfl | simp [closed, men3, mens2_app, mens2_ints, mens2, men2, men1, mens1_app, mens1_ints, mens1]) (by first | rfl | simp [d2, ds1_ints, ds1_app, ds1, d1, ds0_app, ds0_ints, ds0, d0]) rfl ?_
  refine O.move rfl rfl ?_
  refine O.extract rfl rfl rfl ?_
  refine O.extract rfl rfl rfl ?_
  refine O.assign rfl rfl ?_
  refine O.assign rfl rfl ?_
  refine O.nil ?_
  try refine Run.keep [0, 1, 2, 6, 7, 8, 9, 10, 11, 12, 13, 14, 15, 16] rfl rfl ?_
  repeat (first | refine Run.seq ?_ | refine Run.skip ?_ | refine Run.block ?_)
  refine Run.region ?_
  refine O.move rfl rfl ?_
  refine O.move rfl rfl ?_
  refine O.move rfl rfl ?_
  refine O.callE c5 rfl (by first | rfl | simp [closed, men3, mens2_app, mens2_ints, mens2, men2, men1, mens1_app, mens1_ints, mens1]) (by first | rfl | simp [d2, ds1_ints, ds1_app, ds1, d1, ds0_app, ds0_ints, ds0, d0]) rfl ?_
  refine O.move rfl rfl ?_
  refine O.extract rfl rfl rfl ?_
  refine O.extract rfl rfl rfl ?_
  refine O.assign rfl rfl ?_
  refine O.assign rfl rfl ?_
  refine O.nil ?_
  try refine Run.keep [0, 1, 2, 6, 7, 8, 9, 10, 11, 12, 13, 14, 15, 16] rfl rfl ?_
  repeat (first | refine Run.seq ?_ | refine Run.skip ?_ | refine Run.block ?_)
  refine Run.draw mixed rfl ?_
  refine D.callE c7 rfl (by first | rfl | simp [closed, men3, mens2_app, mens2_ints, mens2, men2, men1, mens1_app, mens1_ints, mens1]) (by first | rfl | simp [d2, ds1_ints, ds1_app, ds1, d1, ds0_app, ds0_ints, ds0, d0]) rfl ?_
  refine D.move rfl rfl ?_
  first | (refine D.yes rfl rfl (by first | rfl | assumption) ?_; refine D.move rfl rfl ?_) | refine D.no rfl rfl rfl rfl ?_
  refine D.pick rfl rfl rfl rfl rfl ?_
  refine D.move rfl rfl ?_
  first | (refine D.yes rfl rfl (by first | rfl | assumption) ?_; refine D.move rfl rfl ?_) | refine D.no rfl rfl rfl rfl ?_
  first | (refine D.yes rfl rfl (by first | rfl | assumption) ?_; first | refine D.cmp rfl rfl rfl (by first | exact decide_eq_true (by omega) | exact decide_eq_false (by omega)) rfl ?_ | refine D.cmp rfl rfl rfl rfl rfl ?_) | refine D.no rfl rfl rfl rfl ?_
  refine D.pick rfl rfl rfl rfl rfl ?_
  refine D.move rfl rfl ?_
  first | (refine D.yes rfl rfl (by first | rfl | assumption) ?_; refine D.move rfl rfl ?_) | refine D.no rfl rfl rfl rfl ?_
  first | (refine D.yes rfl rfl (by first | rfl | assumption) ?_; first | refine D.cmp rfl rfl rfl (by first | exact decide_eq_true (by omega) | exact decide_eq_false (by omega)) rfl ?_ | refine D.cmp rfl rfl rfl rfl rfl ?_) | refine D.no rfl rfl rfl rfl ?_
  refine D.pick rfl rfl rfl rfl rfl ?_
  refine D.move rfl rfl ?_
  first | (refine D.yes rfl rfl (by first | rfl | assumption) ?_; refine D.move rfl rfl ?_) | refine D.no rfl rfl rfl rfl ?_
  first | (refine D.yes rfl rfl (by first | rfl | assumption) ?_; refine D.move rfl rfl ?_) | refine D.no rfl rfl rfl rfl ?_
  first | (refine D.yes rfl rfl (by first | rfl | assumption) ?_; refine D.move rfl rfl ?_) | refine D.no rfl rfl rfl rfl ?_
  first | (refine D.yes rfl rfl (by first | rfl | assumption) ?_; refine D.lenLst hE T24 rfl rfl rfl (by first | exact newest_pv | exact newest_gl rfl rfl | trivial) rfl ?_) | refine D.no rfl rfl rfl rfl ?_
  first | (refine D.yes rfl rfl (by first | rfl | assumption) ?_; refine D.move rfl rfl ?_) | refine D.no rfl rfl rfl rfl ?_
  first | (refine D.yes rfl rfl (by first | rfl | assumption) ?_; refine D.move rfl rfl ?_) | refine D.no rfl rfl rfl rfl ?_
  first | (refine D.yes rfl rfl (by first | rfl | assumption) ?_; refine D.move rfl rfl ?_) | refine D.no rfl rfl rfl rfl ?_
  first | (refine D.yes rfl rfl (by first | rfl | assumption) ?_; refine D.index hE T24 rfl T31 rfl rfl newest_pv rfl (by omega) hat1 rfl rfl rfl ?_) | refine D.no rfl rfl rfl rfl ?_
  first | (refine D.yes rfl rfl (by first | rfl | assumption) ?_; first | refine D.loadS hE T31 rfl rfl rfl (by rfl) rfl ?_ | refine D.loadE hE T31 rfl rfl (by rfl) rfl ?_ | refine D.load hE T31 rfl rfl rfl rfl ?_) | refine D.no rfl rfl rfl rfl ?_
  first | (refine D.yes rfl rfl (by first | rfl | assumption) ?_; refine D.move rfl rfl ?_) | refine D.no rfl rfl rfl rfl ?_
  first | (refine D.yes rfl rfl (by first | rfl | assumption) ?_; refine D.move rfl rfl ?_) | refine D.no rfl rfl rfl rfl ?_
  first | (refine D.yes rfl rfl (by first | rfl | assumption) ?_; refine D.index hE T25 rfl T40 rfl rfl newest_pv rfl (by omega) hat2 rfl rfl rfl ?_) | refine D.no rfl rfl rfl rfl ?_
  first | (refine D.yes rfl rfl (by first | rfl | assumption) ?_; refine D.load hE T40 rfl rfl rfl rfl ?_) | refine D.no rfl rfl rfl rfl ?_
  first | (refine D.yes rfl rfl (by first | rfl | assumption) ?_; refine D.move rfl rfl ?_) | refine D.no rfl rfl rfl rfl ?_
  first | (refine D.yes rfl rfl (by first | rfl | assumption) ?_; refine D.callE c6 rfl (by first | rfl | simp [closed, men3, mens2_app, mens2_ints, mens2, men2, men1, mens1_app, mens1_ints, mens1]) (by first | rfl | simp [d2, ds1_ints, ds1_app, ds1, d1, ds0_app, ds0_ints, ds0, d0]) rfl ?_) | refine D.no rfl rfl rfl rfl ?_
  first | (refine D.yes rfl rfl (by first | rfl | assumption) ?_; first | refine D.cmp rfl rfl rfl (by first | exact decide_eq_true (by omega) | exact decide_eq_false (by omega)) rfl ?_ | refine D.cmp rfl rfl rfl rfl rfl ?_) | refine D.no rfl rfl rfl rfl ?_
  refine D.pick rfl rfl rfl rfl rfl ?_
  refine D.assign rfl rfl ?_
  refine Dr.nil ?_
  refine ⟨rfl, ?_⟩
  try refine Run.keep [0, 1, 2, 6, 7, 8, 9, 10, 11, 12, 13, 14, 15, 16] rfl rfl ?_
  (repeat (first | refine Run.seq ?_ | refine Run.skip ?_)); (try refine Run.ret ?_); first | exact Ends.flat hE (.inr rfl) rfl rfl (AVle.of_eq rfl) rfl | exact Ends.flat hE (.inl rfl) rfl rfl (AVle.of_eq rfl) rfl
end Go.Proofs.YthpenjbpaegpgaaDoor.Vm
