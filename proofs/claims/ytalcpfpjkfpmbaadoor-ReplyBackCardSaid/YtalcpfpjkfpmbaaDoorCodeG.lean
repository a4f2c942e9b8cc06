/- A row is read as it was written; codeTells. Conditions: what utf8.ValidString answers. -/
import Derived.Test.YtalcpfpjkfpmbaaDoorCodeD
namespace Go.Proofs.YtalcpfpjkfpmbaaDoor.Vm
open Go Go.RowKit Go.Lib
set_option linter.unusedVariables false
set_option linter.unusedSimpArgs false
attribute [local irreducible] Ops Dr Run eightU esc turnU oneP encP
variable {g : Nat → Option (List PV)}
theorem enc_at {down : Int} {vs : List Vl} {j : Nat} {v : Vl} (h : vs[j]? = some v) : (encP down 0 vs).drop (encP down 0 (vs.take j)).length = (oneP v).map (flipB (dnB down j)) ++ encP down (j + 1) (vs.drop (j + 1)) ∧ (encP down 0 (vs.take (j + 1))).length = (encP down 0 (vs.take j)).length + (oneP v).length := by
  have hj := (List.getElem?_eq_some_iff.1 h).1
  have e : vs = vs.take j ++ (v :: vs.drop (j + 1)) := by
    conv => lhs; rw [← List.take_append_drop j vs]
    rw [List.drop_eq_getElem_cons hj]
    rw [List.getElem?_eq_getElem hj] at h
    rw [Option.some.inj h]
  have hl : (vs.take j).length = j := by rw [List.length_take]; omega
  constructor
  · conv => lhs; arg 2; rw [e]
    rw [encP_append, List.drop_left, Nat.zero_add, hl, encP]
  · rw [List.take_add_one, h, encP_append, List.length_append, Nat.zero_add, hl]
    simp [encP]
theorem fnDecode {vs : List Vl} (hl : vs.length ≤ 5) (hg : ∀ v ∈ vs, Good v) (hR : ∀ v ∈ vs, ReadOk g v) (down : Int) : FnC (En Tryd.prog g) 21 [.pv (byv (encP down 0 vs)), .pv (.int .i64 vs.length), .pv (.int .i64 down)] (.tup [.pv (.lst 4 (vs.map vlE)), .pv (.int .i64 0)]) [] := by
  have hE := EnOk g
  have hb := encP_len (down := down) 0 vs hg
  have hbm : ((encP down 0 vs).map (PV.int .u8)).length = (encP down 0 vs).length := by simp
  have hat0 := fun (j : Nat) (v : Vl) (h : vs[j]? = some v) => enc_at (down := down) h
  have hend : (encP down 0 (vs.take vs.length)).length = (encP down 0 vs).length := by rw [List.take_length]
  have hzero : (encP down 0 (vs.take 0)).length = 0 := by rw [List.take_zero, encP]; rfl
  generalize encP down 0 vs = b at *
  obtain ⟨P, hP⟩ : ∃ P : Nat → Nat, ∀ j, P j = (encP down 0 (vs.take j)).length := ⟨_, fun _ => rfl⟩
  rw [← hP] at hend hzero
  refine FnC.of Tryd.func21 rfl rfl rfl rfl ?_
  repeat (first | refine Run.seq ?_ | refine Run.skip ?_ | refine Run.block ?_)
  refine Run.region ?_
  refine O.box 3 rfl (by first | rfl | exact cells_ones (by simp [ones_app, ones_ints, ones, AV.one, PV.one])) rfl rfl ?_
  refine O.assign rfl rfl ?_
  refine O.assign rfl rfl ?_
  refine O.nil ?_
  try refine Run.keep [0, 1, 2, 3, 6, 7, 8, 9, 10, 11, 12, 13, 14, 20, 22, 23, 24, 30, 37, 47] rfl rfl ?_
  repeat (first | refine Run.seq ?_ | refine Run.skip ?_ | refine Run.block ?_)
  refine Run.region ?_
  refine O.move rfl rfl ?_
  first | refine O.cmp rfl rfl rfl (by first | exact decide_eq_true (by omega) | exact decide_eq_false (by omega)) rfl ?_ | refine O.cmp rfl rfl rfl rfl rfl ?_
  refine O.move rfl rfl ?_
  first | (refine O.yes rfl rfl (by first | rfl | assumption) ?_; refine O.move rfl rfl ?_) | refine O.no rfl rfl rfl rfl ?_
  first | (refine O.yes rfl rfl (by first | rfl | assumption) ?_; first | refine O.cmp rfl rfl rfl (by first | exact decide_eq_true (by omega) | exact decide_eq_false (by omega)) rfl ?_ | refine O.cmp rfl rfl rfl rfl rfl ?_) | refine O.no rfl rfl rfl rfl ?_
  refine O.pick rfl rfl rfl rfl rfl ?_
  refine O.nil ?_
  try refine Run.keep [0, 1, 2, 3, 6, 7, 8, 9, 10, 11, 12, 13, 14, 20, 22, 23, 24, 30, 37, 47] rfl rfl ?_
  repeat (first | refine Run.seq ?_ | refine Run.skip ?_)
  first | refine Run.condT rfl rfl ?_ | refine Run.condF rfl rfl ?_ | refine Run.condT rfl (by assumption) ?_ | refine Run.condF rfl (by assumption) ?_
  repeat (first | refine Run.seq ?_ | refine Run.skip ?_ | refine Run.block ?_)
  refine Run.region ?_
  refine O.alloc hE 8 T3 rfl rfl rfl ?_
  refine O.alloc hE 9 T5 rfl rfl rfl ?_
  refine O.store hE T3 rfl rfl rfl rfl rfl rfl ?_
  refine O.store hE T5 rfl rfl rfl rfl rfl rfl ?_
  refine O.nil ?_
  try refine Run.keep [0, 1, 2, 3, 6, 7, 8, 9, 10, 11, 12, 13, 14, 20, 22, 23, 24, 30, 37, 47] rfl rfl ?_
  repeat (first | refine Run.seq ?_ | refine Run.skip ?_ | refine Run.block ?_)
  refine Run.region ?_
  refine O.makeFunc rfl rfl ?_
  refine O.assign rfl rfl ?_
  refine O.nil ?_
  try refine Run.keep [0, 1, 2, 3, 6, 7, 8, 9, 10, 11, 12, 13, 14, 20, 22, 23, 24, 30, 37, 47] rfl rfl ?_
  repeat (first | refine Run.seq ?_ | refine Run.skip ?_ | refine Run.block ?_)
  refine Run.region ?_
  refine O.assign rfl rfl ?_
  refine O.nil ?_
  try refine Run.keep [0, 1, 2, 3, 6, 7, 8, 9, 10, 11, 12, 13, 14, 20, 22, 23, 24, 30, 37, 47] rfl rfl ?_
  refine Run.pre (SLe.nilBox (t := 11) (b := 111) (e := 60) (sz := 4) rfl rfl rfl rfl) ?_
  repeat (first | refine Run.seq ?_ | refine Run.skip ?_ | refine Run.block ?_)
  refine Run.region ?_
  refine O.move rfl rfl ?_
  refine O.move rfl rfl ?_
  refine O.nil ?_
  try refine Run.keep [0, 1, 2, 3, 6, 7, 8, 9, 10, 11, 12, 13, 14, 20, 22, 23, 24, 30, 37, 47] rfl rfl ?_
  repeat (first | refine Run.seq ?_ | refine Run.skip ?_)
  refine Run.block ?_
  refine Run.loopInv (ι := Nat × Int) (fun q => q.1 ≤ vs.length) (fun q => ⟨49, [(2, .pv (.int .i64 down)), (3, .ptr 3 0), (8, .ptr 8 0), (9, .ptr 9 0), (10, cloD), (11, .gl 111 (vs.take q.1).length), (22, .pv (.int .i64 vs.length)), (23, .pv (.int .i64 (q.1 : Int)))], [(8, .var [.pv (.int .i64 (P q.1 : Int))]), (3, .var [.pv (byv b)]), (9, .var [.pv (.int .u8 q.2)]), (111, .lst 60 4 ((vs.take q.1).map vlE))]⟩) (fun q => vs.length - q.1) (0, 0) (Nat.zero_le _) ?_ ?_
  ·
    dsimp only
    rw [hzero]
    refine SLe.eqv (by repeat (first | exact TmIn.nil | refine TmIn.cons rfl ?_)) (by repeat (first | exact BxIn.nil | refine BxIn.cons rfl ?_)) rfl
  rintro ⟨j, f0⟩ hj ih
  dsimp only at hj ih ⊢
  by_cases hlt : j < vs.length
  ·
    obtain ⟨v, hv⟩ : ∃ v, vs[j]? = some v := ⟨_, List.getElem?_eq_getElem hlt⟩
    obtain ⟨a1, a2⟩ := hat0 j v hv
    rw [← hP] at a1 a2
    rw [← hP] at a2
    have c1 := hR v (List.mem_of_getElem? hv) b (P j) (dnB down j) _ (by omega) a1
    rw [← a2] at c1
    have htk : vs.take (j + 1) = vs.take j ++ [v] := by rw [List.take_add_one, hv]; rfl
    have hjl : (vs.take j).length = j := by rw [List.length_take]; omega
    clear a1 a2
    obtain ⟨k, n, bt, t⟩ := v
    dsimp only [vlA] at c1
    obtain ⟨B, hB⟩ : ∃ B, dnB down j = B := ⟨_, rfl⟩
    rw [hB] at c1
    cases B with
    | true =>
      rw [show flB true = 255 from rfl] at c1
      repeat (first | refine Run.seq ?_ | refine Run.skip ?_ | refine Run.block ?_)
      refine Run.region ?_
      first | refine O.cmp rfl rfl rfl (by first | exact decide_eq_true (by omega) | exact decide_eq_false (by omega)) rfl ?_ | refine O.cmp rfl rfl rfl rfl rfl ?_
      refine O.nil ?_
      try refine Run.keep [0, 1, 2, 3, 6, 7, 8, 9, 10, 11, 12, 13, 14, 20, 22, 23, 24, 30, 37, 47] rfl rfl ?_
      repeat (first | refine Run.seq ?_ | refine Run.skip ?_)
      first | refine Run.condT rfl rfl ?_ | refine Run.condF rfl rfl ?_ | refine Run.condT rfl (by assumption) ?_ | refine Run.condF rfl (by assumption) ?_
      repeat (first | refine Run.seq ?_ | refine Run.skip ?_ | refine Run.block ?_)
      refine Run.region ?_
      refine O.move rfl rfl ?_
      refine O.assign rfl rfl ?_
      refine O.nil ?_
      try refine Run.keep [0, 1, 2, 3, 6, 7, 8, 9, 10, 11, 12, 13, 14, 20, 22, 23, 24, 30, 37, 47] rfl rfl ?_
      repeat (first | refine Run.seq ?_ | refine Run.skip ?_ | refine Run.block ?_)
      refine Run.region ?_
      refine O.store hE T5 rfl rfl rfl rfl rfl rfl ?_
      refine O.nil ?_
      try refine Run.keep [0, 1, 2, 3, 6, 7, 8, 9, 10, 11, 12, 13, 14, 20, 22, 23, 24, 30, 37, 47] rfl rfl ?_
      repeat (first | refine Run.seq ?_ | refine Run.skip ?_ | refine Run.block ?_)
      refine Run.region ?_
      refine O.move rfl rfl ?_
      refine O.move rfl rfl ?_
      refine O.shr rfl rfl (by first | omega | (exact wrap_nn rfl _)) rfl ?_
      refine O.bit rfl rfl rfl rfl ?_
      refine O.cmp (c' := dnB down j) rfl rfl rfl rfl rfl ?_
      refine O.nil ?_
      try refine Run.keep [0, 1, 2, 3, 6, 7, 8, 9, 10, 11, 12, 13, 14, 20, 22, 23, 24, 30, 37, 47] rfl rfl ?_
      repeat (first | refine Run.seq ?_ | refine Run.skip ?_)
      first | refine Run.condT rfl rfl ?_ | refine Run.condF rfl rfl ?_ | refine Run.condT rfl (by assumption) ?_ | refine Run.condF rfl (by assumption) ?_
      repeat (first | refine Run.seq ?_ | refine Run.skip ?_ | refine Run.block ?_)
      refine Run.region ?_
      refine O.store hE T5 rfl rfl rfl rfl rfl rfl ?_
      refine O.nil ?_
      try refine Run.keep [0, 1, 2, 3, 6, 7, 8, 9, 10, 11, 12, 13, 14, 20, 22, 23, 24, 30, 37, 47] rfl rfl ?_
      repeat (first | refine Run.seq ?_ | refine Run.skip ?_ | refine Run.block ?_)
      refine Run.region ?_
      refine O.move rfl rfl ?_
      refine O.lend (ln := lnD) c1 rfl rfl rfl (.inr (fun x hx => by rw [List.mem_singleton.1 hx]; rfl)) (by repeat (first | exact BxIn.nil | refine BxIn.cons rfl ?_)) rfl rfl rfl rfl rfl rfl rfl rfl rfl rfl ?_
      refine O.move rfl rfl ?_
      refine O.extract rfl rfl rfl ?_
      refine O.extract rfl rfl rfl ?_
      refine O.alloc hE 13 T60 rfl rfl rfl ?_
      refine O.store hE T60 rfl rfl rfl rfl rfl rfl ?_
      refine O.assign rfl rfl ?_
      refine O.nil ?_
      try refine Run.keep [0, 1, 2, 3, 6, 7, 8, 9, 10, 11, 12, 13, 14, 20, 22, 23, 24, 30, 37, 47] rfl rfl ?_
      repeat (first | refine Run.seq ?_ | refine Run.skip ?_ | refine Run.block ?_)
      refine Run.region ?_
      refine O.move rfl rfl ?_
      first | refine O.cmp rfl rfl rfl (by first | exact decide_eq_true (by omega) | exact decide_eq_false (by omega)) rfl ?_ | refine O.cmp rfl rfl rfl rfl rfl ?_
      refine O.nil ?_
      try refine Run.keep [0, 1, 2, 3, 6, 7, 8, 9, 10, 11, 12, 13, 14, 20, 22, 23, 24, 30, 37, 47] rfl rfl ?_
      repeat (first | refine Run.seq ?_ | refine Run.skip ?_)
      first | refine Run.condT rfl rfl ?_ | refine Run.condF rfl rfl ?_ | refine Run.condT rfl (by assumption) ?_ | refine Run.condF rfl (by assumption) ?_
      repeat (first | refine Run.seq ?_ | refine Run.skip ?_ | refine Run.block ?_)
      refine Run.region ?_
      refine O.move rfl rfl ?_
      refine O.load hE T60 rfl rfl rfl rfl ?_
      refine O.litV hE T37 rfl T60 rfl rfl rfl rfl rfl rfl rfl ?_
      refine O.appV vlE (q := vs.take j) (r := [⟨k, n, bt, t⟩]) hE T37 rfl T60 rfl rfl rfl rfl rfl newest_pv rfl rfl rfl rfl (by simp; omega) (by simp [maxLen]; omega) rfl ?_
      refine O.assign rfl rfl ?_
      refine O.nil ?_
      try refine Run.keep [0, 1, 2, 3, 6, 7, 8, 9, 10, 11, 12, 13, 14, 20, 22, 23, 24, 30, 37, 47] rfl rfl ?_
      repeat (first | refine Run.seq ?_ | refine Run.skip ?_ | refine Run.block ?_)
      refine Run.region ?_
      first | refine O.ar rfl rfl rfl (by exact wrap_i64 (by omega) (by omega)) rfl ?_ | refine O.ar rfl rfl rfl rfl rfl ?_
      refine O.move rfl rfl ?_
      refine O.nil ?_
      try refine Run.keep [0, 1, 2, 3, 6, 7, 8, 9, 10, 11, 12, 13, 14, 20, 22, 23, 24, 30, 37, 47] rfl rfl ?_
      refine ih (j + 1, 255) _ ?_ (by dsimp only; omega) (by dsimp only; omega)
      dsimp only
      rw [htk]
      exact SLe.drop (by repeat (first | exact TmIn.nil | refine TmIn.cons rfl ?_)) (by repeat (first | exact BxIn.nil | refine BxIn.cons rfl ?_)) rfl rfl
    | false =>
      rw [show flB false = 0 from rfl] at c1
      repeat (first | refine Run.seq ?_ | refine Run.skip ?_ | refine Run.block ?_)
      refine Run.region ?_
      first | refine O.cmp rfl rfl rfl (by first | exact decide_eq_true (by omega) | exact decide_eq_false (by omega)) rfl ?_ | refine O.cmp rfl rfl rfl rfl rfl ?_
      refine O.nil ?_
      try refine Run.keep [0, 1, 2, 3, 6, 7, 8, 9, 10, 11, 12, 13, 14, 20, 22, 23, 24, 30, 37, 47] rfl rfl ?_
      repeat (first | refine Run.seq ?_ | refine Run.skip ?_)
      first | refine Run.condT rfl rfl ?_ | refine Run.condF rfl rfl ?_ | refine Run.condT rfl (by assumption) ?_ | refine Run.condF rfl (by assumption) ?_
      repeat (first | refine Run.seq ?_ | refine Run.skip ?_ | refine Run.block ?_)
      refine Run.region ?_
      refine O.move rfl rfl ?_
      refine O.assign rfl rfl ?_
      refine O.nil ?_
      try refine Run.keep [0, 1, 2, 3, 6, 7, 8, 9, 10, 11, 12, 13, 14, 20, 22, 23, 24, 30, 37, 47] rfl rfl ?_
      repeat (first | refine Run.seq ?_ | refine Run.skip ?_ | refine Run.block ?_)
      refine Run.region ?_
      refine O.store hE T5 rfl rfl rfl rfl rfl rfl ?_
      refine O.nil ?_
      try refine Run.keep [0, 1, 2, 3, 6, 7, 8, 9, 10, 11, 12, 13, 14, 20, 22, 23, 24, 30, 37, 47] rfl rfl ?_
      repeat (first | refine Run.seq ?_ | refine Run.skip ?_ | refine Run.block ?_)
      refine Run.region ?_
      refine O.move rfl rfl ?_
      refine O.move rfl rfl ?_
      refine O.shr rfl rfl (by first | omega | (exact wrap_nn rfl _)) rfl ?_
      refine O.bit rfl rfl rfl rfl ?_
      refine O.cmp (c' := dnB down j) rfl rfl rfl rfl rfl ?_
      refine O.nil ?_
      try refine Run.keep [0, 1, 2, 3, 6, 7, 8, 9, 10, 11, 12, 13, 14, 20, 22, 23, 24, 30, 37, 47] rfl rfl ?_
      repeat (first | refine Run.seq ?_ | refine Run.skip ?_)
      first | refine Run.condT rfl rfl ?_ | refine Run.condF rfl rfl ?_ | refine Run.condT rfl (by assumption) ?_ | refine Run.condF rfl (by assumption) ?_
      repeat (first | refine Run.seq ?_ | refine Run.skip ?_ | refine Run.block ?_)
      refine Run.region ?_
      refine O.move rfl rfl ?_
      refine O.lend (ln := lnD) c1 rfl rfl rfl (.inr (fun x hx => by rw [List.mem_singleton.1 hx]; rfl)) (by repeat (first | exact BxIn.nil | refine BxIn.cons rfl ?_)) rfl rfl rfl rfl rfl rfl rfl rfl rfl rfl ?_
      refine O.move rfl rfl ?_
      refine O.extract rfl rfl rfl ?_
      refine O.extract rfl rfl rfl ?_
      refine O.alloc hE 13 T60 rfl rfl rfl ?_
      refine O.store hE T60 rfl rfl rfl rfl rfl rfl ?_
      refine O.assign rfl rfl ?_
      refine O.nil ?_
      try refine Run.keep [0, 1, 2, 3, 6, 7, 8, 9, 10, 11, 12, 13, 14, 20, 22, 23, 24, 30, 37, 47] rfl rfl ?_
      repeat (first | refine Run.seq ?_ | refine Run.skip ?_ | refine Run.block ?_)
      refine Run.region ?_
      refine O.move rfl rfl ?_
      first | refine O.cmp rfl rfl rfl (by first | exact decide_eq_true (by omega) | exact decide_eq_false (by omega)) rfl ?_ | refine O.cmp rfl rfl rfl rfl rfl ?_
      refine O.nil ?_
      try refine Run.keep [0, 1, 2, 3, 6, 7, 8, 9, 10, 11, 12, 13, 14, 20, 22, 23, 24, 30, 37, 47] rfl rfl ?_
      repeat (first | refine Run.seq ?_ | refine Run.skip ?_)
      first | refine Run.condT rfl rfl ?_ | refine Run.condF rfl rfl ?_ | refine Run.condT rfl (by assumption) ?_ | refine Run.condF rfl (by assumption) ?_
      repeat (first | refine Run.seq ?_ | refine Run.skip ?_ | refine Run.block ?_)
      refine Run.region ?_
      refine O.move rfl rfl ?_
      refine O.load hE T60 rfl rfl rfl rfl ?_
      refine O.litV hE T37 rfl T60 rfl rfl rfl rfl rfl rfl rfl ?_
      refine O.appV vlE (q := vs.take j) (r := [⟨k, n, bt, t⟩]) hE T37 rfl T60 rfl rfl rfl rfl rfl newest_pv rfl rfl rfl rfl (by simp; omega) (by simp [maxLen]; omega) rfl ?_
      refine O.assign rfl rfl ?_
      refine O.nil ?_
      try refine Run.keep [0, 1, 2, 3, 6, 7, 8, 9, 10, 11, 12, 13, 14, 20, 22, 23, 24, 30, 37, 47] rfl rfl ?_
      repeat (first | refine Run.seq ?_ | refine Run.skip ?_ | refine Run.block ?_)
      refine Run.region ?_
      first | refine O.ar rfl rfl rfl (by exact wrap_i64 (by omega) (by omega)) rfl ?_ | refine O.ar rfl rfl rfl rfl rfl ?_
      refine O.move rfl rfl ?_
      refine O.nil ?_
      try refine Run.keep [0, 1, 2, 3, 6, 7, 8, 9, 10, 11, 12, 13, 14, 20, 22, 23, 24, 30, 37, 47] rfl rfl ?_
      refine ih (j + 1, 0) _ ?_ (by dsimp only; omega) (by dsimp only; omega)
      dsimp only
      rw [htk]
      exact SLe.drop (by repeat (first | exact TmIn.nil | refine TmIn.cons rfl ?_)) (by repeat (first | exact BxIn.nil | refine BxIn.cons rfl ?_)) rfl rfl
  have hj' : j = vs.length := by omega
  subst hj'
  rw [List.take_length, hend]
  repeat (first | refine Run.seq ?_ | refine Run.skip ?_ | refine Run.block ?_)
  refine Run.region ?_
  first | refine O.cmp rfl rfl rfl (by first | exact decide_eq_true (by omega) | exact decide_eq_false (by omega)) rfl ?_ | refine O.cmp rfl rfl rfl rfl rfl ?_
  refine O.nil ?_
  try refine Run.keep [0, 1, 2, 3, 6, 7, 8, 9, 10, 11, 12, 13, 14, 20, 22, 23, 24, 30, 37, 47] rfl rfl ?_
  repeat (first | refine Run.seq ?_ | refine Run.skip ?_)
  first | refine Run.condT rfl rfl ?_ | refine Run.condF rfl rfl ?_ | refine Run.condT rfl (by assumption) ?_ | refine Run.condF rfl (by assumption) ?_
  refine Run.exit ?_
  repeat (first | refine thenR_exit ?_ | refine roundR_exit ?_ | refine blockR_exit ?_ | refine blockR_pass rfl ?_)
  repeat (first | refine Run.seq ?_ | refine Run.skip ?_ | refine Run.block ?_)
  refine Run.region ?_
  first | refine O.loadS hE T3 rfl rfl rfl (by rfl) rfl ?_ | refine O.loadE hE T3 rfl rfl (by rfl) rfl ?_ | refine O.load hE T3 rfl rfl rfl rfl ?_
  first | refine O.loadS hE T27 rfl rfl rfl (by rfl) rfl ?_ | refine O.loadE hE T27 rfl rfl (by rfl) rfl ?_ | refine O.load hE T27 rfl rfl rfl rfl ?_
  first | refine O.lenN hE T27 rfl rfl rfl (by first | exact newest_pv | exact newest_gl rfl rfl | trivial) lenC rfl ?_ | refine O.lenLst hE T27 rfl rfl rfl (by first | exact newest_pv | exact newest_gl rfl rfl | trivial) rfl ?_
  first | refine O.cmp rfl rfl rfl (by first | exact decide_eq_true (by omega) | exact decide_eq_false (by omega)) rfl ?_ | refine O.cmp rfl rfl rfl rfl rfl ?_
  refine O.nil ?_
  try refine Run.keep [0, 1, 2, 3, 6, 7, 8, 9, 10, 11, 12, 13, 14, 20, 22, 23, 24, 30, 37, 47] rfl rfl ?_
  repeat (first | refine Run.seq ?_ | refine Run.skip ?_)
  first | refine Run.condT rfl rfl ?_ | refine Run.condF rfl rfl ?_ | refine Run.condT rfl (by assumption) ?_ | refine Run.condF rfl (by assumption) ?_
  repeat (first | refine Run.seq ?_ | refine Run.skip ?_ | refine Run.block ?_)
  refine Run.region ?_
  refine O.move rfl rfl ?_
  refine O.assign rfl rfl ?_
  refine O.assign rfl rfl ?_
  refine O.nil ?_
  try refine Run.keep [0, 1, 2, 3, 6, 7, 8, 9, 10, 11, 12, 13, 14, 20, 22, 23, 24, 30, 37, 47] rfl rfl ?_
  refine Run.ret ?_
  exact Ends.of hE (.inr rfl) rfl rfl (SLe.res0 (AVle.tups (.cons (AVle.lst _ _ _ (lstOf_glV rfl (by simp))) (.cons (AVle.of_eq rfl) .nil))) rfl)
end Go.Proofs.YtalcpfpjkfpmbaaDoor.Vm
