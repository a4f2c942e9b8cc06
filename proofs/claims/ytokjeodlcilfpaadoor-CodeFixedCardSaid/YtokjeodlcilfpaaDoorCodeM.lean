/- What is cut is no row; what has a byte more is none. Conditions: none beyond the tables of utf8. -/
import Derived.Test.YtokjeodlcilfpaaDoorCodeL
namespace Go.Proofs.YtokjeodlcilfpaaDoor.Vm
open Go Go.RowKit Go.Lib
set_option linter.unusedVariables false
set_option linter.unusedSimpArgs false
attribute [local irreducible] Ops Dr Run eightU esc turnU oneP encP
variable {g : Nat → Option (List PV)}
theorem enc_more {down : Int} {vs : List Vl} {more : List Int} {j : Nat} {v : Vl} (h : vs[j]? = some v) : (encP down 0 vs ++ more).drop (encP down 0 (vs.take j)).length = (oneP v).map (flipB (dnB down j)) ++ (encP down (j + 1) (vs.drop (j + 1)) ++ more) ∧ (encP down 0 (vs.take (j + 1))).length = (encP down 0 (vs.take j)).length + (oneP v).length := by
  obtain ⟨h1, h2⟩ := enc_at (down := down) h
  refine ⟨?_, h2⟩
  have hle : (encP down 0 (vs.take j)).length ≤ (encP down 0 vs).length := by
    have e : encP down 0 vs = encP down 0 (vs.take j) ++ encP down (0 + (vs.take j).length) (vs.drop j) := by rw [← encP_append, List.take_append_drop]
    rw [e, List.length_append]; omega
  rw [List.drop_append_of_le_length hle, h1, List.append_assoc]
theorem cut_at {down : Int} : ∀ (i : Nat) (vs : List Vl) (K : Nat), K < (encP down i vs).length → ∃ j v, vs[j]? = some v ∧ (encP down i (vs.take j)).length ≤ K ∧ K < (encP down i (vs.take j)).length + (oneP v).length
  | i, [], K, h => by rw [encP] at h; simp at h
  | i, v :: vs, K, h => by
    by_cases hk : K < (oneP v).length
    · exact ⟨0, v, rfl, by rw [List.take_zero, encP]; simp, by omega⟩
    · rw [encP, List.length_append, List.length_map] at h
      obtain ⟨j, w, h1, h2, h3⟩ := cut_at (down := down) (i + 1) vs (K - (oneP v).length) (by omega)
      refine ⟨j + 1, w, by simpa using h1, ?_, ?_⟩
      · rw [List.take_succ_cons, encP, List.length_append, List.length_map]; omega
      · rw [List.take_succ_cons, encP, List.length_append, List.length_map]; omega
theorem enc_cut {down : Int} {vs : List Vl} {j K : Nat} {v : Vl} (h : vs[j]? = some v) (h0 : (encP down 0 (vs.take j)).length ≤ K) (h1 : K < (encP down 0 (vs.take j)).length + (oneP v).length) : ((encP down 0 vs).take K).drop (encP down 0 (vs.take j)).length = ((oneP v).take (K - (encP down 0 (vs.take j)).length)).map (flipB (dnB down j)) := by
  obtain ⟨a1, _⟩ := enc_at (down := down) h
  rw [List.drop_take, a1, List.take_append_of_le_length (by rw [List.length_map]; omega), List.map_take]
theorem encP_mono {down : Int} {vs : List Vl} {a b : Nat} (h : a ≤ b) : (encP down 0 (vs.take a)).length ≤ (encP down 0 (vs.take b)).length := by
  have e : vs.take a = (vs.take b).take a := by rw [List.take_take, Nat.min_eq_left h]
  have e2 : encP down 0 (vs.take b) = encP down 0 ((vs.take b).take a) ++ encP down (0 + ((vs.take b).take a).length) ((vs.take b).drop a) := by rw [← encP_append, List.take_append_drop]
  rw [e, e2, List.length_append]; omega
theorem enc_before {down : Int} {vs : List Vl} {j j0 K : Nat} {v v0 : Vl} (h : vs[j]? = some v) (hj : j < j0) (h0 : vs[j0]? = some v0) (hK : (encP down 0 (vs.take j0)).length ≤ K) : ∃ rest, ((encP down 0 vs).take K).drop (encP down 0 (vs.take j)).length = (oneP v).map (flipB (dnB down j)) ++ rest ∧ (encP down 0 (vs.take (j + 1))).length = (encP down 0 (vs.take j)).length + (oneP v).length := by
  obtain ⟨a1, a2⟩ := enc_at (down := down) h
  have hm := encP_mono (down := down) (vs := vs) (a := j + 1) (b := j0) (by omega)
  refine ⟨(encP down (j + 1) (vs.drop (j + 1))).take (K - (encP down 0 (vs.take (j + 1))).length), ?_, a2⟩
  rw [List.drop_take, a1, List.take_append, List.length_map, List.take_of_length_le (by rw [List.length_map]; omega)]
  congr 2
  omega
theorem fnDecodeMore {vs : List Vl} {z : Int} (hl : vs.length ≤ 5) (hg : ∀ v ∈ vs, Good v) (hR : ∀ v ∈ vs, ReadOk g v) (down : Int) : FnC (En Tryd.prog g) 26 [.pv (byv (encP down 0 vs ++ [z])), .pv (.int .i64 vs.length), .pv (.int .i64 down)] (.tup [.pv .nil, .pv (.int .i64 3)]) [] := by
  have hE := EnOk g
  have hb := encP_len (down := down) 0 vs hg
  have hbm : ((encP down 0 vs ++ [z]).map (PV.int .u8)).length = (encP down 0 vs).length + 1 := by simp
  have hbl : (encP down 0 vs ++ [z]).length = (encP down 0 vs).length + 1 := by simp
  have hat0 := fun (j : Nat) (v : Vl) (h : vs[j]? = some v) => enc_more (down := down) (more := [z]) h
  have hend : (encP down 0 (vs.take vs.length)).length = (encP down 0 vs).length := by rw [List.take_length]
  have hzero : (encP down 0 (vs.take 0)).length = 0 := by rw [List.take_zero, encP]; rfl
  generalize hb0 : (encP down 0 vs).length = N at *
  generalize encP down 0 vs ++ [z] = b at *
  obtain ⟨P, hP⟩ : ∃ P : Nat → Nat, ∀ j, P j = (encP down 0 (vs.take j)).length := ⟨_, fun _ => rfl⟩
  rw [← hP] at hend hzero
  refine FnC.of Tryd.func26 rfl rfl rfl rfl ?_
  repeat (first | refine Run.seq ?_ | refine Run.skip ?_ | refine Run.block ?_)
  refine Run.region ?_
  refine O.box 3 rfl (by first | rfl | exact cells_ones (by simp [ones_app, ones_ints, ones, AV.one, PV.one])) rfl rfl ?_
  refine O.assign rfl rfl ?_
  refine O.assign rfl rfl ?_
  refine O.nil ?_
  try refine Run.keep [0, 1, 2, 3, 6, 7, 8, 9, 10, 11, 12, 13, 14, 20, 22, 23, 24, 30, 37, 47] rfl rfl ?_
  repeat (first | refine Run.seq ?_ | refine Run.skip ?_ | refine Run.block ?_)
  refine Run.region ?_
  refine O.move rfl rfl ?_
  first | refine O.cmp rfl rfl rfl (by first | exact decide_eq_true (by omega) | exact decide_eq_false (by omega)) rfl ?_ | refine O.cmp rfl rfl rfl rfl rfl ?_
  refine O.move rfl rfl ?_
  first | (refine O.yes rfl rfl (by first | rfl | assumption) ?_; refine O.move rfl rfl ?_) | refine O.no rfl rfl rfl rfl ?_
  first | (refine O.yes rfl rfl (by first | rfl | assumption) ?_; first | refine O.cmp rfl rfl rfl (by first | exact decide_eq_true (by omega) | exact decide_eq_false (by omega)) rfl ?_ | refine O.cmp rfl rfl rfl rfl rfl ?_) | refine O.no rfl rfl rfl rfl ?_
  refine O.pick rfl rfl rfl rfl rfl ?_
  refine O.nil ?_
  try refine Run.keep [0, 1, 2, 3, 6, 7, 8, 9, 10, 11, 12, 13, 14, 20, 22, 23, 24, 30, 37, 47] rfl rfl ?_
  repeat (first | refine Run.seq ?_ | refine Run.skip ?_)
  first | refine Run.condT rfl rfl ?_ | refine Run.condF rfl rfl ?_ | refine Run.condT rfl (by assumption) ?_ | refine Run.condF rfl (by assumption) ?_
  repeat (first | refine Run.seq ?_ | refine Run.skip ?_ | refine Run.block ?_)
  refine Run.region ?_
  refine O.alloc hE 8 T3 rfl rfl rfl ?_
  refine O.alloc hE 9 T5 rfl rfl rfl ?_
  refine O.store hE T3 rfl rfl rfl rfl rfl rfl ?_
  refine O.store hE T5 rfl rfl rfl rfl rfl rfl ?_
  refine O.nil ?_
  try refine Run.keep [0, 1, 2, 3, 6, 7, 8, 9, 10, 11, 12, 13, 14, 20, 22, 23, 24, 30, 37, 47] rfl rfl ?_
  repeat (first | refine Run.seq ?_ | refine Run.skip ?_ | refine Run.block ?_)
  refine Run.region ?_
  refine O.makeFunc rfl rfl ?_
  refine O.assign rfl rfl ?_
  refine O.nil ?_
  try refine Run.keep [0, 1, 2, 3, 6, 7, 8, 9, 10, 11, 12, 13, 14, 20, 22, 23, 24, 30, 37, 47] rfl rfl ?_
  repeat (first | refine Run.seq ?_ | refine Run.skip ?_ | refine Run.block ?_)
  refine Run.region ?_
  refine O.assign rfl rfl ?_
  refine O.nil ?_
  try refine Run.keep [0, 1, 2, 3, 6, 7, 8, 9, 10, 11, 12, 13, 14, 20, 22, 23, 24, 30, 37, 47] rfl rfl ?_
  refine Run.pre (SLe.nilBox (t := 11) (b := 111) (e := 69) (sz := 4) rfl rfl rfl rfl) ?_
  repeat (first | refine Run.seq ?_ | refine Run.skip ?_ | refine Run.block ?_)
  refine Run.region ?_
  refine O.move rfl rfl ?_
  refine O.move rfl rfl ?_
  refine O.nil ?_
  try refine Run.keep [0, 1, 2, 3, 6, 7, 8, 9, 10, 11, 12, 13, 14, 20, 22, 23, 24, 30, 37, 47] rfl rfl ?_
  repeat (first | refine Run.seq ?_ | refine Run.skip ?_)
  refine Run.block ?_
  refine Run.loopInv (ι := Nat × Int) (fun q => q.1 ≤ vs.length) (fun q => ⟨49, [(2, .pv (.int .i64 down)), (3, .ptr 3 0), (8, .ptr 8 0), (9, .ptr 9 0), (10, cloD), (11, .gl 111 (vs.take q.1).length), (22, .pv (.int .i64 vs.length)), (23, .pv (.int .i64 (q.1 : Int)))], [(8, .var [.pv (.int .i64 (P q.1 : Int))]), (3, .var [.pv (byv b)]), (9, .var [.pv (.int .u8 q.2)]), (111, .lst 69 4 ((vs.take q.1).map vlE))]⟩) (fun q => vs.length - q.1) (0, 0) (Nat.zero_le _) ?_ ?_
  ·
    dsimp only
    rw [hzero]
    refine SLe.eqv (by repeat (first | exact TmIn.nil | refine TmIn.cons rfl ?_)) (by repeat (first | exact BxIn.nil | refine BxIn.cons rfl ?_)) rfl
  rintro ⟨j, f0⟩ hj ih
  dsimp only at hj ih ⊢
  by_cases hlt : j < vs.length
  ·
    obtain ⟨v, hv⟩ : ∃ v, vs[j]? = some v := ⟨_, List.getElem?_eq_getElem hlt⟩
    obtain ⟨a1, a2⟩ := hat0 j v hv
    rw [← hP] at a1 a2
    rw [← hP] at a2
    have c1 := hR v (List.mem_of_getElem? hv) b (P j) (dnB down j) _ (by omega) a1
    rw [← a2] at c1
    have htk : vs.take (j + 1) = vs.take j ++ [v] := by rw [List.take_add_one, hv]; rfl
    have hjl : (vs.take j).length = j := by rw [List.length_take]; omega
    clear a1 a2
    obtain ⟨k, n, bt, t⟩ := v
    dsimp only [vlA] at c1
    obtain ⟨B, hB⟩ : ∃ B, dnB down j = B := ⟨_, rfl⟩
    rw [hB] at c1
    cases B with
    | true =>
      rw [show flB true = 255 from rfl] at c1
      repeat (first | refine Run.seq ?_ | refine Run.skip ?_ | refine Run.block ?_)
      refine Run.region ?_
      first | refine O.cmp rfl rfl rfl (by first | exact decide_eq_true (by omega) | exact decide_eq_false (by omega)) rfl ?_ | refine O.cmp rfl rfl rfl rfl rfl ?_
      refine O.nil ?_
      try refine Run.keep [0, 1, 2, 3, 6, 7, 8, 9, 10, 11, 12, 13, 14, 20, 22, 23, 24, 30, 37, 47] rfl rfl ?_
      repeat (first | refine Run.seq ?_ | refine Run.skip ?_)
      first | refine Run.condT rfl rfl ?_ | refine Run.condF rfl rfl ?_ | refine Run.condT rfl (by assumption) ?_ | refine Run.condF rfl (by assumption) ?_
      repeat (first | refine Run.seq ?_ | refine Run.skip ?_ | refine Run.block ?_)
      refine Run.region ?_
      refine O.move rfl rfl ?_
      refine O.assign rfl rfl ?_
      refine O.nil ?_
      try refine Run.keep [0, 1, 2, 3, 6, 7, 8, 9, 10, 11, 12, 13, 14, 20, 22, 23, 24, 30, 37, 47] rfl rfl ?_
      repeat (first | refine Run.seq ?_ | refine Run.skip ?_ | refine Run.block ?_)
      refine Run.region ?_
      refine O.store hE T5 rfl rfl rfl rfl rfl rfl ?_
      refine O.nil ?_
      try refine Run.keep [0, 1, 2, 3, 6, 7, 8, 9, 10, 11, 12, 13, 14, 20, 22, 23, 24, 30, 37, 47] rfl rfl ?_
      repeat (first | refine Run.seq ?_ | refine Run.skip ?_ | refine Run.block ?_)
      refine Run.region ?_
      refine O.move rfl rfl ?_
      refine O.move rfl rfl ?_
      refine O.shr rfl rfl (by first | omega | (exact wrap_nn rfl _)) rfl ?_
      refine O.bit rfl rfl rfl rfl ?_
      refine O.cmp (c' := dnB down j) rfl rfl rfl rfl rfl ?_
      refine O.nil ?_
      try refine Run.keep [0, 1, 2, 3, 6, 7, 8, 9, 10, 11, 12, 13, 14, 20, 22, 23, 24, 30, 37, 47] rfl rfl ?_
      repeat (first | refine Run.seq ?_ | refine Run.skip ?_)
      first | refine Run.condT rfl rfl ?_ | refine Run.condF rfl rfl ?_ | refine Run.condT rfl (by assumption) ?_ | refine Run.condF rfl (by assumption) ?_
      repeat (first | refine Run.seq ?_ | refine Run.skip ?_ | refine Run.block ?_)
      refine Run.region ?_
      refine O.store hE T5 rfl rfl rfl rfl rfl rfl ?_
      refine O.nil ?_
      try refine Run.keep [0, 1, 2, 3, 6, 7, 8, 9, 10, 11, 12, 13, 14, 20, 22, 23, 24, 30, 37, 47] rfl rfl ?_
      repeat (first | refine Run.seq ?_ | refine Run.skip ?_ | refine Run.block ?_)
      refine Run.region ?_
      refine O.move rfl rfl ?_
      refine O.lend (ln := lnD) c1 rfl rfl rfl (.inr (fun x hx => by rw [List.mem_singleton.1 hx]; rfl)) (by repeat (first | exact BxIn.nil | refine BxIn.cons rfl ?_)) rfl rfl rfl rfl rfl rfl rfl rfl rfl rfl ?_
      refine O.move rfl rfl ?_
      refine O.extract rfl rfl rfl ?_
      refine O.extract rfl rfl rfl ?_
      refine O.alloc hE 13 T69 rfl rfl rfl ?_
      refine O.store hE T69 rfl rfl rfl rfl rfl rfl ?_
      refine O.assign rfl rfl ?_
      refine O.nil ?_
      try refine Run.keep [0, 1, 2, 3, 6, 7, 8, 9, 10, 11, 12, 13, 14, 20, 22, 23, 24, 30, 37, 47] rfl rfl ?_
      repeat (first | refine Run.seq ?_ | refine Run.skip ?_ | refine Run.block ?_)
      refine Run.region ?_
      refine O.move rfl rfl ?_
      first | refine O.cmp rfl rfl rfl (by first | exact decide_eq_true (by omega) | exact decide_eq_false (by omega)) rfl ?_ | refine O.cmp rfl rfl rfl rfl rfl ?_
      refine O.nil ?_
      try refine Run.keep [0, 1, 2, 3, 6, 7, 8, 9, 10, 11, 12, 13, 14, 20, 22, 23, 24, 30, 37, 47] rfl rfl ?_
      repeat (first | refine Run.seq ?_ | refine Run.skip ?_)
      first | refine Run.condT rfl rfl ?_ | refine Run.condF rfl rfl ?_ | refine Run.condT rfl (by assumption) ?_ | refine Run.condF rfl (by assumption) ?_
      repeat (first | refine Run.seq ?_ | refine Run.skip ?_ | refine Run.block ?_)
      refine Run.region ?_
      refine O.move rfl rfl ?_
      refine O.load hE T69 rfl rfl rfl rfl ?_
      refine O.litV hE T53 rfl T69 rfl rfl rfl rfl rfl rfl rfl ?_
      refine O.appV vlE (q := vs.take j) (r := [⟨k, n, bt, t⟩]) hE T53 rfl T69 rfl rfl rfl rfl rfl newest_pv rfl rfl rfl rfl (by simp; omega) (by simp [maxLen]; omega) rfl ?_
      refine O.assign rfl rfl ?_
      refine O.nil ?_
      try refine Run.keep [0, 1, 2, 3, 6, 7, 8, 9, 10, 11, 12, 13, 14, 20, 22, 23, 24, 30, 37, 47] rfl rfl ?_
      repeat (first | refine Run.seq ?_ | refine Run.skip ?_ | refine Run.block ?_)
      refine Run.region ?_
      first | refine O.ar rfl rfl rfl (by exact wrap_i64 (by omega) (by omega)) rfl ?_ | refine O.ar rfl rfl rfl rfl rfl ?_
      refine O.move rfl rfl ?_
      refine O.nil ?_
      try refine Run.keep [0, 1, 2, 3, 6, 7, 8, 9, 10, 11, 12, 13, 14, 20, 22, 23, 24, 30, 37, 47] rfl rfl ?_
      refine ih (j + 1, 255) _ ?_ (by dsimp only; omega) (by dsimp only; omega)
      dsimp only
      rw [htk]
      exact SLe.drop (by repeat (first | exact TmIn.nil | refine TmIn.cons rfl ?_)) (by repeat (first | exact BxIn.nil | refine BxIn.cons rfl ?_)) rfl rfl
    | false =>
      rw [show flB false = 0 from rfl] at c1
      repeat (first | refine Run.seq ?_ | refine Run.skip ?_ | refine Run.block ?_)
      refine Run.region ?_
      first | refine O.cmp rfl rfl rfl (by first | exact decide_eq_true (by omega) | exact decide_eq_false (by omega)) rfl ?_ | refine O.cmp rfl rfl rfl rfl rfl ?_
      refine O.nil ?_
      try refine Run.keep [0, 1, 2, 3, 6, 7, 8, 9, 10, 11, 12, 13, 14, 20, 22, 23, 24, 30, 37, 47] rfl rfl ?_
      repeat (first | refine Run.seq ?_ | refine Run.skip ?_)
      first | refine Run.condT rfl rfl ?_ | refine Run.condF rfl rfl ?_ | refine Run.condT rfl (by assumption) ?_ | refine Run.condF rfl (by assumption) ?_
      repeat (first | refine Run.seq ?_ | refine Run.skip ?_ | refine Run.block ?_)
      refine Run.region ?_
      refine O.move rfl rfl ?_
      refine O.assign rfl rfl ?_
      refine O.nil ?_
      try refine Run.keep [0, 1, 2, 3, 6, 7, 8, 9, 10, 11, 12, 13, 14, 20, 22, 23, 24, 30, 37, 47] rfl rfl ?_
      repeat (first | refine Run.seq ?_ | refine Run.skip ?_ | refine Run.block ?_)
      refine Run.region ?_
      refine O.store hE T5 rfl rfl rfl rfl rfl rfl ?_
      refine O.nil ?_
      try refine Run.keep [0, 1, 2, 3, 6, 7, 8, 9, 10, 11, 12, 13, 14, 20, 22, 23, 24, 30, 37, 47] rfl rfl ?_
      repeat (first | refine Run.seq ?_ | refine Run.skip ?_ | refine Run.block ?_)
      refine Run.region ?_
      refine O.move rfl rfl ?_
      refine O.move rfl rfl ?_
      refine O.shr rfl rfl (by first | omega | (exact wrap_nn rfl _)) rfl ?_
      refine O.bit rfl rfl rfl rfl ?_
      refine O.cmp (c' := dnB down j) rfl rfl rfl rfl rfl ?_
      refine O.nil ?_
      try refine Run.keep [0, 1, 2, 3, 6, 7, 8, 9, 10, 11, 12, 13, 14, 20, 22, 23, 24, 30, 37, 47] rfl rfl ?_
      repeat (first | refine Run.seq ?_ | refine Run.skip ?_)
      first | refine Run.condT rfl rfl ?_ | refine Run.condF rfl rfl ?_ | refine Run.condT rfl (by assumption) ?_ | refine Run.condF rfl (by assumption) ?_
      repeat (first | refine Run.seq ?_ | refine Run.skip ?_ | refine Run.block ?_)
      refine Run.region ?_
      refine O.move rfl rfl ?_
      refine O.lend (ln := lnD) c1 rfl rfl rfl (.inr (fun x hx => by rw [List.mem_singleton.1 hx]; rfl)) (by repeat (first | exact BxIn.nil | refine BxIn.cons rfl ?_)) rfl rfl rfl rfl rfl rfl rfl rfl rfl rfl ?_
      refine O.move rfl rfl ?_
      refine O.extract rfl rfl rfl ?_
      refine O.extract rfl rfl rfl ?_
      refine O.alloc hE 13 T69 rfl rfl rfl ?_
      refine O.store hE T69 rfl rfl rfl rfl rfl rfl ?_
      refine O.assign rfl rfl ?_
      refine O.nil ?_
      try refine Run.keep [0, 1, 2, 3, 6, 7, 8, 9, 10, 11, 12, 13, 14, 20, 22, 23, 24, 30, 37, 47] rfl rfl ?_
      repeat (first | refine Run.seq ?_ | refine Run.skip ?_ | refine Run.block ?_)
      refine Run.region ?_
      refine O.move rfl rfl ?_
      first | refine O.cmp rfl rfl rfl (by first | exact decide_eq_true (by omega) | exact decide_eq_false (by omega)) rfl ?_ | refine O.cmp rfl rfl rfl rfl rfl ?_
      refine O.nil ?_
      try refine Run.keep [0, 1, 2, 3, 6, 7, 8, 9, 10, 11, 12, 13, 14, 20, 22, 23, 24, 30, 37, 47] rfl rfl ?_
      repeat (first | refine Run.seq ?_ | refine Run.skip ?_)
      first | refine Run.condT rfl rfl ?_ | refine Run.condF rfl rfl ?_ | refine Run.condT rfl (by assumption) ?_ | refine Run.condF rfl (by assumption) ?_
      repeat (first | refine Run.seq ?_ | refine Run.skip ?_ | refine Run.block ?_)
      refine Run.region ?_
      refine O.move rfl rfl ?_
      refine O.load hE T69 rfl rfl rfl rfl ?_
      refine O.litV hE T53 rfl T69 rfl rfl rfl rfl rfl rfl rfl ?_
      refine O.appV vlE (q := vs.take j) (r := [⟨k, n, bt, t⟩]) hE T53 rfl T69 rfl rfl rfl rfl rfl newest_pv rfl rfl rfl rfl (by simp; omega) (by simp [maxLen]; omega) rfl ?_
      refine O.assign rfl rfl ?_
      refine O.nil ?_
      try refine Run.keep [0, 1, 2, 3, 6, 7, 8, 9, 10, 11, 12, 13, 14, 20, 22, 23, 24, 30, 37, 47] rfl rfl ?_
      repeat (first | refine Run.seq ?_ | refine Run.skip ?_ | refine Run.block ?_)
      refine Run.region ?_
      first | refine O.ar rfl rfl rfl (by exact wrap_i64 (by omega) (by omega)) rfl ?_ | refine O.ar rfl rfl rfl rfl rfl ?_
      refine O.move rfl rfl ?_
      refine O.nil ?_
      try refine Run.keep [0, 1, 2, 3, 6, 7, 8, 9, 10, 11, 12, 13, 14, 20, 22, 23, 24, 30, 37, 47] rfl rfl ?_
      refine ih (j + 1, 0) _ ?_ (by dsimp only; omega) (by dsimp only; omega)
      dsimp only
      rw [htk]
      exact SLe.drop (by repeat (first | exact TmIn.nil | refine TmIn.cons rfl ?_)) (by repeat (first | exact BxIn.nil | refine BxIn.cons rfl ?_)) rfl rfl
  have hj' : j = vs.length := by omega
  subst hj'
  rw [List.take_length, hend]
  repeat (first | refine Run.seq ?_ | refine Run.skip ?_ | refine Run.block ?_)
  refine Run.region ?_
  first | refine O.cmp rfl rfl rfl (by first | exact decide_eq_true (by omega) | exact decide_eq_false (by omega)) rfl ?_ | refine O.cmp rfl rfl rfl rfl rfl ?_
  refine O.nil ?_
  try refine Run.keep [0, 1, 2, 3, 6, 7, 8, 9, 10, 11, 12, 13, 14, 20, 22, 23, 24, 30, 37, 47] rfl rfl ?_
  repeat (first | refine Run.seq ?_ | refine Run.skip ?_)
  first | refine Run.condT rfl rfl ?_ | refine Run.condF rfl rfl ?_ | refine Run.condT rfl (by assumption) ?_ | refine Run.condF rfl (by assumption) ?_
  refine Run.exit ?_
  repeat (first | refine thenR_exit ?_ | refine roundR_exit ?_ | refine blockR_exit ?_ | refine blockR_pass rfl ?_)
  repeat (first | refine Run.seq ?_ | refine Run.skip ?_ | refine Run.block ?_)
  refine Run.region ?_
  first | refine O.loadS hE T3 rfl rfl rfl (by rfl) rfl ?_ | refine O.loadE hE T3 rfl rfl (by rfl) rfl ?_ | refine O.load hE T3 rfl rfl rfl rfl ?_
  first | refine O.loadS hE T33 rfl rfl rfl (by rfl) rfl ?_ | refine O.loadE hE T33 rfl rfl (by rfl) rfl ?_ | refine O.load hE T33 rfl rfl rfl rfl ?_
  first | refine O.lenN hE T33 rfl rfl rfl (by first | exact newest_pv | exact newest_gl rfl rfl | trivial) lenC rfl ?_ | refine O.lenLst hE T33 rfl rfl rfl (by first | exact newest_pv | exact newest_gl rfl rfl | trivial) rfl ?_
  first | refine O.cmp rfl rfl rfl (by first | exact decide_eq_true (by omega) | exact decide_eq_false (by omega)) rfl ?_ | refine O.cmp rfl rfl rfl rfl rfl ?_
  refine O.nil ?_
  try refine Run.keep [0, 1, 2, 3, 6, 7, 8, 9, 10, 11, 12, 13, 14, 20, 22, 23, 24, 30, 37, 47] rfl rfl ?_
  repeat (first | refine Run.seq ?_ | refine Run.skip ?_)
  first | refine Run.condT rfl rfl ?_ | refine Run.condF rfl rfl ?_ | refine Run.condT rfl (by assumption) ?_ | refine Run.condF rfl (by assumption) ?_
  repeat (first | refine Run.seq ?_ | refine Run.skip ?_ | refine Run.block ?_)
  refine Run.region ?_
  refine O.assign rfl rfl ?_
  refine O.assign rfl rfl ?_
  refine O.nil ?_
  try refine Run.keep [0, 1, 2, 3, 6, 7, 8, 9, 10, 11, 12, 13, 14, 20, 22, 23, 24, 30, 37, 47] rfl rfl ?_
  refine Run.ret ?_
  exact Ends.of hE (.inr rfl) rfl rfl (SLe.res0 (AVle.of_eq rfl) rfl)
theorem fnDecodeCut {vs : List Vl} {K : Nat} (hl : vs.length ≤ 5) (hg : ∀ v ∈ vs, Good v) (hR : ∀ v ∈ vs, ReadOk g v) (hC : ∀ v ∈ vs, ReadCut g v) (down : Int) (hK : K < (encP down 0 vs).length) : FnC (En Tryd.prog g) 26 [.pv (byv ((encP down 0 vs).take K)), .pv (.int .i64 vs.length), .pv (.int .i64 down)] (.tup [.pv .nil, .pv (.int .i64 4)]) [] := by
  have hE := EnOk g
  have hb := encP_len (down := down) 0 vs hg
  have hbl : ((encP down 0 vs).take K).length = K := by rw [List.length_take]; omega
  have hbl9 : ((encP down 0 vs).take K).length ≤ 1000 := by rw [hbl]; omega
  obtain ⟨j0, v0, hv0, hP0, hP1⟩ := cut_at 0 vs K hK
  have hj0 := (List.getElem?_eq_some_iff.1 hv0).1
  have hcut := enc_cut (down := down) hv0 hP0 hP1
  have hat0 := fun (j : Nat) (v : Vl) (h : vs[j]? = some v) (hj : j < j0) => enc_before (down := down) h hj hv0 hP0
  have hzero : (encP down 0 (vs.take 0)).length = 0 := by rw [List.take_zero, encP]; rfl
  generalize (encP down 0 vs).take K = b at *
  clear hK
  obtain ⟨P, hP⟩ : ∃ P : Nat → Nat, ∀ j, P j = (encP down 0 (vs.take j)).length := ⟨_, fun _ => rfl⟩
  rw [← hP] at hzero hP0 hP1 hcut
  refine FnC.of Tryd.func26 rfl rfl rfl rfl ?_
  repeat (first | refine Run.seq ?_ | refine Run.skip ?_ | refine Run.block ?_)
  refine Run.region ?_
  refine O.box 3 rfl (by first | rfl | exact cells_ones (by simp [ones_app, ones_ints, ones, AV.one, PV.one])) rfl rfl ?_
  refine O.assign rfl rfl ?_
  refine O.assign rfl rfl ?_
  refine O.nil ?_
  try refine Run.keep [0, 1, 2, 3, 6, 7, 8, 9, 10, 11, 12, 13, 14, 20, 22, 23, 24, 30, 37, 47] rfl rfl ?_
  repeat (first | refine Run.seq ?_ | refine Run.skip ?_ | refine Run.block ?_)
  refine Run.region ?_
  refine O.move rfl rfl ?_
  first | refine O.cmp rfl rfl rfl (by first | exact decide_eq_true (by omega) | exact decide_eq_false (by omega)) rfl ?_ | refine O.cmp rfl rfl rfl rfl rfl ?_
  refine O.move rfl rfl ?_
  first | (refine O.yes rfl rfl (by first | rfl | assumption) ?_; refine O.move rfl rfl ?_) | refine O.no rfl rfl rfl rfl ?_
  first | (refine O.yes rfl rfl (by first | rfl | assumption) ?_; first | refine O.cmp rfl rfl rfl (by first | exact decide_eq_true (by omega) | exact decide_eq_false (by omega)) rfl ?_ | refine O.cmp rfl rfl rfl rfl rfl ?_) | refine O.no rfl rfl rfl rfl ?_
  refine O.pick rfl rfl rfl rfl rfl ?_
  refine O.nil ?_
  try refine Run.keep [0, 1, 2, 3, 6, 7, 8, 9, 10, 11, 12, 13, 14, 20, 22, 23, 24, 30, 37, 47] rfl rfl ?_
  repeat (first | refine Run.seq ?_ | refine Run.skip ?_)
  first | refine Run.condT rfl rfl ?_ | refine Run.condF rfl rfl ?_ | refine Run.condT rfl (by assumption) ?_ | refine Run.condF rfl (by assumption) ?_
  repeat (first | refine Run.seq ?_ | refine Run.skip ?_ | refine Run.block ?_)
  refine Run.region ?_
  refine O.alloc hE 8 T3 rfl rfl rfl ?_
  refine O.alloc hE 9 T5 rfl rfl rfl ?_
  refine O.store hE T3 rfl rfl rfl rfl rfl rfl ?_
  refine O.store hE T5 rfl rfl rfl rfl rfl rfl ?_
  refine O.nil ?_
  try refine Run.keep [0, 1, 2, 3, 6, 7, 8, 9, 10, 11, 12, 13, 14, 20, 22, 23, 24, 30, 37, 47] rfl rfl ?_
  repeat (first | refine Run.seq ?_ | refine Run.skip ?_ | refine Run.block ?_)
  refine Run.region ?_
  refine O.makeFunc rfl rfl ?_
  refine O.assign rfl rfl ?_
  refine O.nil ?_
  try refine Run.keep [0, 1, 2, 3, 6, 7, 8, 9, 10, 11, 12, 13, 14, 20, 22, 23, 24, 30, 37, 47] rfl rfl ?_
  repeat (first | refine Run.seq ?_ | refine Run.skip ?_ | refine Run.block ?_)
  refine Run.region ?_
  refine O.assign rfl rfl ?_
  refine O.nil ?_
  try refine Run.keep [0, 1, 2, 3, 6, 7, 8, 9, 10, 11, 12, 13, 14, 20, 22, 23, 24, 30, 37, 47] rfl rfl ?_
  refine Run.pre (SLe.nilBox (t := 11) (b := 111) (e := 69) (sz := 4) rfl rfl rfl rfl) ?_
  repeat (first | refine Run.seq ?_ | refine Run.skip ?_ | refine Run.block ?_)
  refine Run.region ?_
  refine O.move rfl rfl ?_
  refine O.move rfl rfl ?_
  refine O.nil ?_
  try refine Run.keep [0, 1, 2, 3, 6, 7, 8, 9, 10, 11, 12, 13, 14, 20, 22, 23, 24, 30, 37, 47] rfl rfl ?_
  repeat (first | refine Run.seq ?_ | refine Run.skip ?_)
  refine Run.block ?_
  refine Run.loopInv (ι := Nat × Int) (fun q => q.1 ≤ j0) (fun q => ⟨49, [(2, .pv (.int .i64 down)), (3, .ptr 3 0), (8, .ptr 8 0), (9, .ptr 9 0), (10, cloD), (11, .gl 111 (vs.take q.1).length), (22, .pv (.int .i64 vs.length)), (23, .pv (.int .i64 (q.1 : Int)))], [(8, .var [.pv (.int .i64 (P q.1 : Int))]), (3, .var [.pv (byv b)]), (9, .var [.pv (.int .u8 q.2)]), (111, .lst 69 4 ((vs.take q.1).map vlE))]⟩) (fun q => j0 - q.1) (0, 0) (Nat.zero_le _) ?_ ?_
  ·
    dsimp only
    rw [hzero]
    refine SLe.eqv (by repeat (first | exact TmIn.nil | refine TmIn.cons rfl ?_)) (by repeat (first | exact BxIn.nil | refine BxIn.cons rfl ?_)) rfl
  rintro ⟨j, f0⟩ hj ih
  dsimp only at hj ih ⊢
  by_cases hlt : j < j0
  ·
    obtain ⟨v, hv⟩ : ∃ v, vs[j]? = some v := ⟨_, List.getElem?_eq_getElem (by omega)⟩
    obtain ⟨rest, a1, a2⟩ := hat0 j v hv hlt
    rw [← hP] at a1 a2
    rw [← hP] at a2
    have c1 := hR v (List.mem_of_getElem? hv) b (P j) (dnB down j) _ (by omega) a1
    rw [← a2] at c1
    have htk : vs.take (j + 1) = vs.take j ++ [v] := by rw [List.take_add_one, hv]; rfl
    have hjl : (vs.take j).length = j := by rw [List.length_take]; omega
    clear a1 a2
    obtain ⟨k, n, bt, t⟩ := v
    dsimp only [vlA] at c1
    obtain ⟨B, hB⟩ : ∃ B, dnB down j = B := ⟨_, rfl⟩
    rw [hB] at c1
    cases B with
    | true =>
      rw [show flB true = 255 from rfl] at c1
      repeat (first | refine Run.seq ?_ | refine Run.skip ?_ | refine Run.block ?_)
      refine Run.region ?_
      first | refine O.cmp rfl rfl rfl (by first | exact decide_eq_true (by omega) | exact decide_eq_false (by omega)) rfl ?_ | refine O.cmp rfl rfl rfl rfl rfl ?_
      refine O.nil ?_
      try refine Run.keep [0, 1, 2, 3, 6, 7, 8, 9, 10, 11, 12, 13, 14, 20, 22, 23, 24, 30, 37, 47] rfl rfl ?_
      repeat (first | refine Run.seq ?_ | refine Run.skip ?_)
      first | refine Run.condT rfl rfl ?_ | refine Run.condF rfl rfl ?_ | refine Run.condT rfl (by assumption) ?_ | refine Run.condF rfl (by assumption) ?_
      repeat (first | refine Run.seq ?_ | refine Run.skip ?_ | refine Run.block ?_)
      refine Run.region ?_
      refine O.move rfl rfl ?_
      refine O.assign rfl rfl ?_
      refine O.nil ?_
      try refine Run.keep [0, 1, 2, 3, 6, 7, 8, 9, 10, 11, 12, 13, 14, 20, 22, 23, 24, 30, 37, 47] rfl rfl ?_
      repeat (first | refine Run.seq ?_ | refine Run.skip ?_ | refine Run.block ?_)
      refine Run.region ?_
      refine O.store hE T5 rfl rfl rfl rfl rfl rfl ?_
      refine O.nil ?_
      try refine Run.keep [0, 1, 2, 3, 6, 7, 8, 9, 10, 11, 12, 13, 14, 20, 22, 23, 24, 30, 37, 47] rfl rfl ?_
      repeat (first | refine Run.seq ?_ | refine Run.skip ?_ | refine Run.block ?_)
      refine Run.region ?_
      refine O.move rfl rfl ?_
      refine O.move rfl rfl ?_
      refine O.shr rfl rfl (by first | omega | (exact wrap_nn rfl _)) rfl ?_
      refine O.bit rfl rfl rfl rfl ?_
      refine O.cmp (c' := dnB down j) rfl rfl rfl rfl rfl ?_
      refine O.nil ?_
      try refine Run.keep [0, 1, 2, 3, 6, 7, 8, 9, 10, 11, 12, 13, 14, 20, 22, 23, 24, 30, 37, 47] rfl rfl ?_
      repeat (first | refine Run.seq ?_ | refine Run.skip ?_)
      first | refine Run.condT rfl rfl ?_ | refine Run.condF rfl rfl ?_ | refine Run.condT rfl (by assumption) ?_ | refine Run.condF rfl (by assumption) ?_
      repeat (first | refine Run.seq ?_ | refine Run.skip ?_ | refine Run.block ?_)
      refine Run.region ?_
      refine O.store hE T5 rfl rfl rfl rfl rfl rfl ?_
      refine O.nil ?_
      try refine Run.keep [0, 1, 2, 3, 6, 7, 8, 9, 10, 11, 12, 13, 14, 20, 22, 23, 24, 30, 37, 47] rfl rfl ?_
      repeat (first | refine Run.seq ?_ | refine Run.skip ?_ | refine Run.block ?_)
      refine Run.region ?_
      refine O.move rfl rfl ?_
      refine O.lend (ln := lnD) c1 rfl rfl rfl (.inr (fun x hx => by rw [List.mem_singleton.1 hx]; rfl)) (by repeat (first | exact BxIn.nil | refine BxIn.cons rfl ?_)) rfl rfl rfl rfl rfl rfl rfl rfl rfl rfl ?_
      refine O.move rfl rfl ?_
      refine O.extract rfl rfl rfl ?_
      refine O.extract rfl rfl rfl ?_
      refine O.alloc hE 13 T69 rfl rfl rfl ?_
      refine O.store hE T69 rfl rfl rfl rfl rfl rfl ?_
      refine O.assign rfl rfl ?_
      refine O.nil ?_
      try refine Run.keep [0, 1, 2, 3, 6, 7, 8, 9, 10, 11, 12, 13, 14, 20, 22, 23, 24, 30, 37, 47] rfl rfl ?_
      repeat (first | refine Run.seq ?_ | refine Run.skip ?_ | refine Run.block ?_)
      refine Run.region ?_
      refine O.move rfl rfl ?_
      first | refine O.cmp rfl rfl rfl (by first | exact decide_eq_true (by omega) | exact decide_eq_false (by omega)) rfl ?_ | refine O.cmp rfl rfl rfl rfl rfl ?_
      refine O.nil ?_
      try refine Run.keep [0, 1, 2, 3, 6, 7, 8, 9, 10, 11, 12, 13, 14, 20, 22, 23, 24, 30, 37, 47] rfl rfl ?_
      repeat (first | refine Run.seq ?_ | refine Run.skip ?_)
      first | refine Run.condT rfl rfl ?_ | refine Run.condF rfl rfl ?_ | refine Run.condT rfl (by assumption) ?_ | refine Run.condF rfl (by assumption) ?_
      repeat (first | refine Run.seq ?_ | refine Run.skip ?_ | refine Run.block ?_)
      refine Run.region ?_
      refine O.move rfl rfl ?_
      refine O.load hE T69 rfl rfl rfl rfl ?_
      refine O.litV hE T53 rfl T69 rfl rfl rfl rfl rfl rfl rfl ?_
      refine O.appV vlE (q := vs.take j) (r := [⟨k, n, bt, t⟩]) hE T53 rfl T69 rfl rfl rfl rfl rfl newest_pv rfl rfl rfl rfl (by simp; omega) (by simp [maxLen]; omega) rfl ?_
      refine O.assign rfl rfl ?_
      refine O.nil ?_
      try refine Run.keep [0, 1, 2, 3, 6, 7, 8, 9, 10, 11, 12, 13, 14, 20, 22, 23, 24, 30, 37, 47] rfl rfl ?_
      repeat (first | refine Run.seq ?_ | refine Run.skip ?_ | refine Run.block ?_)
      refine Run.region ?_
      first | refine O.ar rfl rfl rfl (by exact wrap_i64 (by omega) (by omega)) rfl ?_ | refine O.ar rfl rfl rfl rfl rfl ?_
      refine O.move rfl rfl ?_
      refine O.nil ?_
      try refine Run.keep [0, 1, 2, 3, 6, 7, 8, 9, 10, 11, 12, 13, 14, 20, 22, 23, 24, 30, 37, 47] rfl rfl ?_
      refine ih (j + 1, 255) _ ?_ (by dsimp only; omega) (by dsimp only; omega)
      dsimp only
      rw [htk]
      exact SLe.drop (by repeat (first | exact TmIn.nil | refine TmIn.cons rfl ?_)) (by repeat (first | exact BxIn.nil | refine BxIn.cons rfl ?_)) rfl rfl
    | false =>
      rw [show flB false = 0 from rfl] at c1
      repeat (first | refine Run.seq ?_ | refine Run.skip ?_ | refine Run.block ?_)
      refine Run.region ?_
      first | refine O.cmp rfl rfl rfl (by first | exact decide_eq_true (by omega) | exact decide_eq_false (by omega)) rfl ?_ | refine O.cmp rfl rfl rfl rfl rfl ?_
      refine O.nil ?_
      try refine Run.keep [0, 1, 2, 3, 6, 7, 8, 9, 10, 11, 12, 13, 14, 20, 22, 23, 24, 30, 37, 47] rfl rfl ?_
      repeat (first | refine Run.seq ?_ | refine Run.skip ?_)
      first | refine Run.condT rfl rfl ?_ | refine Run.condF rfl rfl ?_ | refine Run.condT rfl (by assumption) ?_ | refine Run.condF rfl (by assumption) ?_
      repeat (first | refine Run.seq ?_ | refine Run.skip ?_ | refine Run.block ?_)
      refine Run.region ?_
      refine O.move rfl rfl ?_
      refine O.assign rfl rfl ?_
      refine O.nil ?_
      try refine Run.keep [0, 1, 2, 3, 6, 7, 8, 9, 10, 11, 12, 13, 14, 20, 22, 23, 24, 30, 37, 47] rfl rfl ?_
      repeat (first | refine Run.seq ?_ | refine Run.skip ?_ | refine Run.block ?_)
      refine Run.region ?_
      refine O.store hE T5 rfl rfl rfl rfl rfl rfl ?_
      refine O.nil ?_
      try refine Run.keep [0, 1, 2, 3, 6, 7, 8, 9, 10, 11, 12, 13, 14, 20, 22, 23, 24, 30, 37, 47] rfl rfl ?_
      repeat (first | refine Run.seq ?_ | refine Run.skip ?_ | refine Run.block ?_)
      refine Run.region ?_
      refine O.move rfl rfl ?_
      refine O.move rfl rfl ?_
      refine O.shr rfl rfl (by first | omega | (exact wrap_nn rfl _)) rfl ?_
      refine O.bit rfl rfl rfl rfl ?_
      refine O.cmp (c' := dnB down j) rfl rfl rfl rfl rfl ?_
      refine O.nil ?_
      try refine Run.keep [0, 1, 2, 3, 6, 7, 8, 9, 10, 11, 12, 13, 14, 20, 22, 23, 24, 30, 37, 47] rfl rfl ?_
      repeat (first | refine Run.seq ?_ | refine Run.skip ?_)
      first | refine Run.condT rfl rfl ?_ | refine Run.condF rfl rfl ?_ | refine Run.condT rfl (by assumption) ?_ | refine Run.condF rfl (by assumption) ?_
      repeat (first | refine Run.seq ?_ | refine Run.skip ?_ | refine Run.block ?_)
      refine Run.region ?_
      refine O.move rfl rfl ?_
      refine O.lend (ln := lnD) c1 rfl rfl rfl (.inr (fun x hx => by rw [List.mem_singleton.1 hx]; rfl)) (by repeat (first | exact BxIn.nil | refine BxIn.cons rfl ?_)) rfl rfl rfl rfl rfl rfl rfl rfl rfl rfl ?_
      refine O.move rfl rfl ?_
      refine O.extract rfl rfl rfl ?_
      refine O.extract rfl rfl rfl ?_
      refine O.alloc hE 13 T69 rfl rfl rfl ?_
      refine O.store hE T69 rfl rfl rfl rfl rfl rfl ?_
      refine O.assign rfl rfl ?_
      refine O.nil ?_
      try refine Run.keep [0, 1, 2, 3, 6, 7, 8, 9, 10, 11, 12, 13, 14, 20, 22, 23, 24, 30, 37, 47] rfl rfl ?_
      repeat (first | refine Run.seq ?_ | refine Run.skip ?_ | refine Run.block ?_)
      refine Run.region ?_
      refine O.move rfl rfl ?_
      first | refine O.cmp rfl rfl rfl (by first | exact decide_eq_true (by omega) | exact decide_eq_false (by omega)) rfl ?_ | refine O.cmp rfl rfl rfl rfl rfl ?_
      refine O.nil ?_
      try refine Run.keep [0, 1, 2, 3, 6, 7, 8, 9, 10, 11, 12, 13, 14, 20, 22, 23, 24, 30, 37, 47] rfl rfl ?_
      repeat (first | refine Run.seq ?_ | refine Run.skip ?_)
      first | refine Run.condT rfl rfl ?_ | refine Run.condF rfl rfl ?_ | refine Run.condT rfl (by assumption) ?_ | refine Run.condF rfl (by assumption) ?_
      repeat (first | refine Run.seq ?_ | refine Run.skip ?_ | refine Run.block ?_)
      refine Run.region ?_
      refine O.move rfl rfl ?_
      refine O.load hE T69 rfl rfl rfl rfl ?_
      refine O.litV hE T53 rfl T69 rfl rfl rfl rfl rfl rfl rfl ?_
      refine O.appV vlE (q := vs.take j) (r := [⟨k, n, bt, t⟩]) hE T53 rfl T69 rfl rfl rfl rfl rfl newest_pv rfl rfl rfl rfl (by simp; omega) (by simp [maxLen]; omega) rfl ?_
      refine O.assign rfl rfl ?_
      refine O.nil ?_
      try refine Run.keep [0, 1, 2, 3, 6, 7, 8, 9, 10, 11, 12, 13, 14, 20, 22, 23, 24, 30, 37, 47] rfl rfl ?_
      repeat (first | refine Run.seq ?_ | refine Run.skip ?_ | refine Run.block ?_)
      refine Run.region ?_
      first | refine O.ar rfl rfl rfl (by exact wrap_i64 (by omega) (by omega)) rfl ?_ | refine O.ar rfl rfl rfl rfl rfl ?_
      refine O.move rfl rfl ?_
      refine O.nil ?_
      try refine Run.keep [0, 1, 2, 3, 6, 7, 8, 9, 10, 11, 12, 13, 14, 20, 22, 23, 24, 30, 37, 47] rfl rfl ?_
      refine ih (j + 1, 0) _ ?_ (by dsimp only; omega) (by dsimp only; omega)
      dsimp only
      rw [htk]
      exact SLe.drop (by repeat (first | exact TmIn.nil | refine TmIn.cons rfl ?_)) (by repeat (first | exact BxIn.nil | refine BxIn.cons rfl ?_)) rfl rfl
  obtain rfl : j = j0 := by omega
  have c1 := hC v0 (List.mem_of_getElem? hv0) b (P j) (K - P j) (dnB down j) (by omega) (by omega) (by omega) hcut
  rw [show P j + (K - P j) = K by omega] at c1
  have hjl : (vs.take j).length = j := by rw [List.length_take]; omega
  clear hcut
  obtain ⟨B, hB⟩ : ∃ B, dnB down j = B := ⟨_, rfl⟩
  rw [hB] at c1
  cases B with
  | true =>
    rw [show flB true = 255 from rfl] at c1
    repeat (first | refine Run.seq ?_ | refine Run.skip ?_ | refine Run.block ?_)
    refine Run.region ?_
    first | refine O.cmp rfl rfl rfl (by first | exact decide_eq_true (by omega) | exact decide_eq_false (by omega)) rfl ?_ | refine O.cmp rfl rfl rfl rfl rfl ?_
    refine O.nil ?_
    try refine Run.keep [0, 1, 2, 3, 6, 7, 8, 9, 10, 11, 12, 13, 14, 20, 22, 23, 24, 30, 37, 47] rfl rfl ?_
    repeat (first | refine Run.seq ?_ | refine Run.skip ?_)
    first | refine Run.condT rfl rfl ?_ | refine Run.condF rfl rfl ?_ | refine Run.condT rfl (by assumption) ?_ | refine Run.condF rfl (by assumption) ?_
    repeat (first | refine Run.seq ?_ | refine Run.skip ?_ | refine Run.block ?_)
    refine Run.region ?_
    refine O.move rfl rfl ?_
    refine O.assign rfl rfl ?_
    refine O.nil ?_
    try refine Run.keep [0, 1, 2, 3, 6, 7, 8, 9, 10, 11, 12, 13, 14, 20, 22, 23, 24, 30, 37, 47] rfl rfl ?_
    repeat (first | refine Run.seq ?_ | refine Run.skip ?_ | refine Run.block ?_)
    refine Run.region ?_
    refine O.store hE T5 rfl rfl rfl rfl rfl rfl ?_
    refine O.nil ?_
    try refine Run.keep [0, 1, 2, 3, 6, 7, 8, 9, 10, 11, 12, 13, 14, 20, 22, 23, 24, 30, 37, 47] rfl rfl ?_
    repeat (first | refine Run.seq ?_ | refine Run.skip ?_ | refine Run.block ?_)
    refine Run.region ?_
    refine O.move rfl rfl ?_
    refine O.move rfl rfl ?_
    refine O.shr rfl rfl (by first | omega | (exact wrap_nn rfl _)) rfl ?_
    refine O.bit rfl rfl rfl rfl ?_
    refine O.cmp (c' := dnB down j) rfl rfl rfl rfl rfl ?_
    refine O.nil ?_
    try refine Run.keep [0, 1, 2, 3, 6, 7, 8, 9, 10, 11, 12, 13, 14, 20, 22, 23, 24, 30, 37, 47] rfl rfl ?_
    repeat (first | refine Run.seq ?_ | refine Run.skip ?_)
    first | refine Run.condT rfl rfl ?_ | refine Run.condF rfl rfl ?_ | refine Run.condT rfl (by assumption) ?_ | refine Run.condF rfl (by assumption) ?_
    repeat (first | refine Run.seq ?_ | refine Run.skip ?_ | refine Run.block ?_)
    refine Run.region ?_
    refine O.store hE T5 rfl rfl rfl rfl rfl rfl ?_
    refine O.nil ?_
    try refine Run.keep [0, 1, 2, 3, 6, 7, 8, 9, 10, 11, 12, 13, 14, 20, 22, 23, 24, 30, 37, 47] rfl rfl ?_
    repeat (first | refine Run.seq ?_ | refine Run.skip ?_ | refine Run.block ?_)
    refine Run.region ?_
    refine O.move rfl rfl ?_
    refine O.lend (ln := lnD) c1 rfl rfl rfl (.inr (fun x hx => by rw [List.mem_singleton.1 hx]; rfl)) (by repeat (first | exact BxIn.nil | refine BxIn.cons rfl ?_)) rfl rfl rfl rfl rfl rfl rfl rfl rfl rfl ?_
    refine O.move rfl rfl ?_
    refine O.extract rfl rfl rfl ?_
    refine O.extract rfl rfl rfl ?_
    refine O.alloc hE 13 T69 rfl rfl rfl ?_
    refine O.store hE T69 rfl rfl rfl rfl rfl rfl ?_
    refine O.assign rfl rfl ?_
    refine O.nil ?_
    try refine Run.keep [0, 1, 2, 3, 6, 7, 8, 9, 10, 11, 12, 13, 14, 20, 22, 23, 24, 30, 37, 47] rfl rfl ?_
    repeat (first | refine Run.seq ?_ | refine Run.skip ?_ | refine Run.block ?_)
    refine Run.region ?_
    refine O.move rfl rfl ?_
    first | refine O.cmp rfl rfl rfl (by first | exact decide_eq_true (by omega) | exact decide_eq_false (by omega)) rfl ?_ | refine O.cmp rfl rfl rfl rfl rfl ?_
    refine O.nil ?_
    try refine Run.keep [0, 1, 2, 3, 6, 7, 8, 9, 10, 11, 12, 13, 14, 20, 22, 23, 24, 30, 37, 47] rfl rfl ?_
    repeat (first | refine Run.seq ?_ | refine Run.skip ?_)
    first | refine Run.condT rfl rfl ?_ | refine Run.condF rfl rfl ?_ | refine Run.condT rfl (by assumption) ?_ | refine Run.condF rfl (by assumption) ?_
    repeat (first | refine Run.seq ?_ | refine Run.skip ?_ | refine Run.block ?_)
    refine Run.region ?_
    refine O.move rfl rfl ?_
    refine O.assign rfl rfl ?_
    refine O.assign rfl rfl ?_
    refine O.nil ?_
    try refine Run.keep [0, 1, 2, 3, 6, 7, 8, 9, 10, 11, 12, 13, 14, 20, 22, 23, 24, 30, 37, 47] rfl rfl ?_
    refine Run.ret ?_
    repeat (first | refine thenR_ret ?_ | refine roundR_ret ?_ | refine blockR_ret ?_)
    exact Ends.of hE (.inr rfl) rfl rfl (SLe.res0 (AVle.of_eq rfl) rfl)
  | false =>
    rw [show flB false = 0 from rfl] at c1
    repeat (first | refine Run.seq ?_ | refine Run.skip ?_ | refine Run.block ?_)
    refine Run.region ?_
    first | refine O.cmp rfl rfl rfl (by first | exact decide_eq_true (by omega) | exact decide_eq_false (by omega)) rfl ?_ | refine O.cmp rfl rfl rfl rfl rfl ?_
    refine O.nil ?_
    try refine Run.keep [0, 1, 2, 3, 6, 7, 8, 9, 10, 11, 12, 13, 14, 20, 22, 23, 24, 30, 37, 47] rfl rfl ?_
    repeat (first | refine Run.seq ?_ | refine Run.skip ?_)
    first | refine Run.condT rfl rfl ?_ | refine Run.condF rfl rfl ?_ | refine Run.condT rfl (by assumption) ?_ | refine Run.condF rfl (by assumption) ?_
    repeat (first | refine Run.seq ?_ | refine Run.skip ?_ | refine Run.block ?_)
    refine Run.region ?_
    refine O.move rfl rfl ?_
    refine O.assign rfl rfl ?_
    refine O.nil ?_
    try refine Run.keep [0, 1, 2, 3, 6, 7, 8, 9, 10, 11, 12, 13, 14, 20, 22, 23, 24, 30, 37, 47] rfl rfl ?_
    repeat (first | refine Run.seq ?_ | refine Run.skip ?_ | refine Run.block ?_)
    refine Run.region ?_
    refine O.store hE T5 rfl rfl rfl rfl rfl rfl ?_
    refine O.nil ?_
    try refine Run.keep [0, 1, 2, 3, 6, 7, 8, 9, 10, 11, 12, 13, 14, 20, 22, 23, 24, 30, 37, 47] rfl rfl ?_
    repeat (first | refine Run.seq ?_ | refine Run.skip ?_ | refine Run.block ?_)
    refine Run.region ?_
    refine O.move rfl rfl ?_
    refine O.move rfl rfl ?_
    refine O.shr rfl rfl (by first | omega | (exact wrap_nn rfl _)) rfl ?_
    refine O.bit rfl rfl rfl rfl ?_
    refine O.cmp (c' := dnB down j) rfl rfl rfl rfl rfl ?_
    refine O.nil ?_
    try refine Run.keep [0, 1, 2, 3, 6, 7, 8, 9, 10, 11, 12, 13, 14, 20, 22, 23, 24, 30, 37, 47] rfl rfl ?_
    repeat (first | refine Run.seq ?_ | refine Run.skip ?_)
    first | refine Run.condT rfl rfl ?_ | refine Run.condF rfl rfl ?_ | refine Run.condT rfl (by assumption) ?_ | refine Run.condF rfl (by assumption) ?_
    repeat (first | refine Run.seq ?_ | refine Run.skip ?_ | refine Run.block ?_)
    refine Run.region ?_
    refine O.move rfl rfl ?_
    refine O.lend (ln := lnD) c1 rfl rfl rfl (.inr (fun x hx => by rw [List.mem_singleton.1 hx]; rfl)) (by repeat (first | exact BxIn.nil | refine BxIn.cons rfl ?_)) rfl rfl rfl rfl rfl rfl rfl rfl rfl rfl ?_
    refine O.move rfl rfl ?_
    refine O.extract rfl rfl rfl ?_
    refine O.extract rfl rfl rfl ?_
    refine O.alloc hE 13 T69 rfl rfl rfl ?_
    refine O.store hE T69 rfl rfl rfl rfl rfl rfl ?_
    refine O.assign rfl rfl ?_
    refine O.nil ?_
    try refine Run.keep [0, 1, 2, 3, 6, 7, 8, 9, 10, 11, 12, 13, 14, 20, 22, 23, 24, 30, 37, 47] rfl rfl ?_
    repeat (first | refine Run.seq ?_ | refine Run.skip ?_ | refine Run.block ?_)
    refine Run.region ?_
    refine O.move rfl rfl ?_
    first | refine O.cmp rfl rfl rfl (by first | exact decide_eq_true (by omega) | exact decide_eq_false (by omega)) rfl ?_ | refine O.cmp rfl rfl rfl rfl rfl ?_
    refine O.nil ?_
    try refine Run.keep [0, 1, 2, 3, 6, 7, 8, 9, 10, 11, 12, 13, 14, 20, 22, 23, 24, 30, 37, 47] rfl rfl ?_
    repeat (first | refine Run.seq ?_ | refine Run.skip ?_)
    first | refine Run.condT rfl rfl ?_ | refine Run.condF rfl rfl ?_ | refine Run.condT rfl (by assumption) ?_ | refine Run.condF rfl (by assumption) ?_
    repeat (first | refine Run.seq ?_ | refine Run.skip ?_ | refine Run.block ?_)
    refine Run.region ?_
    refine O.move rfl rfl ?_
    refine O.assign rfl rfl ?_
    refine O.assign rfl rfl ?_
    refine O.nil ?_
    try refine Run.keep [0, 1, 2, 3, 6, 7, 8, 9, 10, 11, 12, 13, 14, 20, 22, 23, 24, 30, 37, 47] rfl rfl ?_
    refine Run.ret ?_
    repeat (first | refine thenR_ret ?_ | refine roundR_ret ?_ | refine blockR_ret ?_)
    exact Ends.of hE (.inr rfl) rfl rfl (SLe.res0 (AVle.of_eq rfl) rfl)
end Go.Proofs.YtokjeodlcilfpaaDoor.Vm
