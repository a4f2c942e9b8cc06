/- Bytes of any kind: they are a row, or are told to be none. Conditions: none beyond the tables of utf8. Printed by gen_dec.py. -/
import Derived.Test.YtalcpfpjkfpmbaaDoorCodeM
import Derived.Test.YtalcpfpjkfpmbaaDoorCodeN
namespace Go.Proofs.YtalcpfpjkfpmbaaDoor.Vm
open Go Go.RowKit Go.Lib
set_option linter.unusedVariables false
set_option linter.unusedSimpArgs false
section
attribute [local irreducible] Ops Dr Run eightU esc turnU oneP encP
variable {g : Nat → Option (List PV)}
theorem fnDecodeMoreG {vs : List Vl} {more : List Int} (hm : 0 < more.length) (hl : vs.length ≤ 5) (hg : ∀ v ∈ vs, Good v) (hR : ∀ v ∈ vs, ReadOk g v) (down : Int) (hbx : (encP down 0 vs ++ more).length ≤ 9223372036854775807) : FnC (En Tryd.prog g) 21 [.pv (byv (encP down 0 vs ++ more)), .pv (.int .i64 vs.length), .pv (.int .i64 down)] (.tup [.pv .nil, .pv (.int .i64 3)]) [] := by
  have hE := EnOk g
  have hb := encP_len (down := down) 0 vs hg
  have hbm : ((encP down 0 vs ++ more).map (PV.int .u8)).length = (encP down 0 vs).length + more.length := by simp
  have hbl : (encP down 0 vs ++ more).length = (encP down 0 vs).length + more.length := by simp
  have hat0 := fun (j : Nat) (v : Vl) (h : vs[j]? = some v) => enc_more (down := down) (more := more) h
  have hend : (encP down 0 (vs.take vs.length)).length = (encP down 0 vs).length := by rw [List.take_length]
  have hzero : (encP down 0 (vs.take 0)).length = 0 := by rw [List.take_zero, encP]; rfl
  generalize hb0 : (encP down 0 vs).length = N at *
  generalize encP down 0 vs ++ more = b at *
  obtain ⟨P, hP⟩ : ∃ P : Nat → Nat, ∀ j, P j = (encP down 0 (vs.take j)).length := ⟨_, fun _ => rfl⟩
  rw [← hP] at hend hzero
  refine FnC.of Tryd.func21 rfl rfl rfl rfl ?_
  repeat (first | refine Run.seq ?_ | refine Run.skip ?_ | refine Run.block ?_)
  refine Run.region ?_
  refine O.box 3 rfl (by first | rfl | exact cells_ones (by simp [ones_app, ones_ints, ones, AV.one, PV.one])) rfl rfl ?_
  refine O.assign rfl rfl ?_
  refine O.assign rfl rfl ?_
  refine O.nil ?_
  try refine Run.keep [0, 1, 2, 3, 6, 7, 8, 9, 10, 11, 12, 13, 14, 20, 22, 23, 24, 30, 37, 47] rfl rfl ?_
  repeat (first | refine Run.seq ?_ | refine Run.skip ?_ | refine Run.block ?_)
  refine Run.region ?_
  refine O.move rfl rfl ?_
  first | refine O.cmp rfl rfl rfl (by first | exact decide_eq_true (by omega) | exact decide_eq_false (by omega)) rfl ?_ | refine O.cmp rfl rfl rfl rfl rfl ?_
  refine O.move rfl rfl ?_
  first | (refine O.yes rfl rfl (by first | rfl | assumption) ?_; refine O.move rfl rfl ?_) | refine O.no rfl rfl rfl rfl ?_
  first | (refine O.yes rfl rfl (by first | rfl | assumption) ?_; first | refine O.cmp rfl rfl rfl (by first | exact decide_eq_true (by omega) | exact decide_eq_false (by omega)) rfl ?_ | refine O.cmp rfl rfl rfl rfl rfl ?_) | refine O.no rfl rfl rfl rfl ?_
  refine O.pick rfl rfl rfl rfl rfl ?_
  refine O.nil ?_
  try refine Run.keep [0, 1, 2, 3, 6, 7, 8, 9, 10, 11, 12, 13, 14, 20, 22, 23, 24, 30, 37, 47] rfl rfl ?_
  repeat (first | refine Run.seq ?_ | refine Run.skip ?_)
  first | refine Run.condT rfl rfl ?_ | refine Run.condF rfl rfl ?_ | refine Run.condT rfl (by assumption) ?_ | refine Run.condF rfl (by assumption) ?_
  repeat (first | refine Run.seq ?_ | refine Run.skip ?_ | refine Run.block ?_)
  refine Run.region ?_
  refine O.alloc hE 8 T3 rfl rfl rfl ?_
  refine O.alloc hE 9 T5 rfl rfl rfl ?_
  refine O.store hE T3 rfl rfl rfl rfl rfl rfl ?_
  refine O.store hE T5 rfl rfl rfl rfl rfl rfl ?_
  refine O.nil ?_
  try refine Run.keep [0, 1, 2, 3, 6, 7, 8, 9, 10, 11, 12, 13, 14, 20, 22, 23, 24, 30, 37, 47] rfl rfl ?_
  repeat (first | refine Run.seq ?_ | refine Run.skip ?_ | refine Run.block ?_)
  refine Run.region ?_
  refine O.makeFunc rfl rfl ?_
  refine O.assign rfl rfl ?_
  refine O.nil ?_
  try refine Run.keep [0, 1, 2, 3, 6, 7, 8, 9, 10, 11, 12, 13, 14, 20, 22, 23, 24, 30, 37, 47] rfl rfl ?_
  repeat (first | refine Run.seq ?_ | refine Run.skip ?_ | refine Run.block ?_)
  refine Run.region ?_
  refine O.assign rfl rfl ?_
  refine O.nil ?_
  try refine Run.keep [0, 1, 2, 3, 6, 7, 8, 9, 10, 11, 12, 13, 14, 20, 22, 23, 24, 30, 37, 47] rfl rfl ?_
  refine Run.pre (SLe.nilBox (t := 11) (b := 111) (e := 60) (sz := 4) rfl rfl rfl rfl) ?_
  repeat (first | refine Run.seq ?_ | refine Run.skip ?_ | refine Run.block ?_)
  refine Run.region ?_
  refine O.move rfl rfl ?_
  refine O.move rfl rfl ?_
  refine O.nil ?_
  try refine Run.keep [0, 1, 2, 3, 6, 7, 8, 9, 10, 11, 12, 13, 14, 20, 22, 23, 24, 30, 37, 47] rfl rfl ?_
  repeat (first | refine Run.seq ?_ | refine Run.skip ?_)
  refine Run.block ?_
  refine Run.loopInv (ι := Nat × Int) (fun q => q.1 ≤ vs.length) (fun q => ⟨49, [(2, .pv (.int .i64 down)), (3, .ptr 3 0), (8, .ptr 8 0), (9, .ptr 9 0), (10, cloD), (11, .gl 111 (vs.take q.1).length), (22, .pv (.int .i64 vs.length)), (23, .pv (.int .i64 (q.1 : Int)))], [(8, .var [.pv (.int .i64 (P q.1 : Int))]), (3, .var [.pv (byv b)]), (9, .var [.pv (.int .u8 q.2)]), (111, .lst 60 4 ((vs.take q.1).map vlE))]⟩) (fun q => vs.length - q.1) (0, 0) (Nat.zero_le _) ?_ ?_
  ·
    dsimp only
    rw [hzero]
    refine SLe.eqv (by repeat (first | exact TmIn.nil | refine TmIn.cons rfl ?_)) (by repeat (first | exact BxIn.nil | refine BxIn.cons rfl ?_)) rfl
  rintro ⟨j, f0⟩ hj ih
  dsimp only at hj ih ⊢
  by_cases hlt : j < vs.length
  ·
    obtain ⟨v, hv⟩ : ∃ v, vs[j]? = some v := ⟨_, List.getElem?_eq_getElem hlt⟩
    obtain ⟨a1, a2⟩ := hat0 j v hv
    rw [← hP] at a1 a2
    rw [← hP] at a2
    have c1 := hR v (List.mem_of_getElem? hv) b (P j) (dnB down j) _ (by omega) a1
    rw [← a2] at c1
    have htk : vs.take (j + 1) = vs.take j ++ [v] := by rw [List.take_add_one, hv]; rfl
    have hjl : (vs.take j).length = j := by rw [List.length_take]; omega
    clear a1 a2
    obtain ⟨k, n, bt, t⟩ := v
    dsimp only [vlA] at c1
    obtain ⟨B, hB⟩ : ∃ B, dnB down j = B := ⟨_, rfl⟩
    rw [hB] at c1
    cases B with
    | true =>
      rw [show flB true = 255 from rfl] at c1
      repeat (first | refine Run.seq ?_ | refine Run.skip ?_ | refine Run.block ?_)
      refine Run.region ?_
      first | refine O.cmp rfl rfl rfl (by first | exact decide_eq_true (by omega) | exact decide_eq_false (by omega)) rfl ?_ | refine O.cmp rfl rfl rfl rfl rfl ?_
      refine O.nil ?_
      try refine Run.keep [0, 1, 2, 3, 6, 7, 8, 9, 10, 11, 12, 13, 14, 20, 22, 23, 24, 30, 37, 47] rfl rfl ?_
      repeat (first | refine Run.seq ?_ | refine Run.skip ?_)
      first | refine Run.condT rfl rfl ?_ | refine Run.condF rfl rfl ?_ | refine Run.condT rfl (by assumption) ?_ | refine Run.condF rfl (by assumption) ?_
      repeat (first | refine Run.seq ?_ | refine Run.skip ?_ | refine Run.block ?_)
      refine Run.region ?_
      refine O.move rfl rfl ?_
      refine O.assign rfl rfl ?_
      refine O.nil ?_
      try refine Run.keep [0, 1, 2, 3, 6, 7, 8, 9, 10, 11, 12, 13, 14, 20, 22, 23, 24, 30, 37, 47] rfl rfl ?_
      repeat (first | refine Run.seq ?_ | refine Run.skip ?_ | refine Run.block ?_)
      refine Run.region ?_
      refine O.store hE T5 rfl rfl rfl rfl rfl rfl ?_
      refine O.nil ?_
      try refine Run.keep [0, 1, 2, 3, 6, 7, 8, 9, 10, 11, 12, 13, 14, 20, 22, 23, 24, 30, 37, 47] rfl rfl ?_
      repeat (first | refine Run.seq ?_ | refine Run.skip ?_ | refine Run.block ?_)
      refine Run.region ?_
      refine O.move rfl rfl ?_
      refine O.move rfl rfl ?_
      refine O.shr rfl rfl (by first | omega | (exact wrap_nn rfl _)) rfl ?_
      refine O.bit rfl rfl rfl rfl ?_
      refine O.cmp (c' := dnB down j) rfl rfl rfl rfl rfl ?_
      refine O.nil ?_
      try refine Run.keep [0, 1, 2, 3, 6, 7, 8, 9, 10, 11, 12, 13, 14, 20, 22, 23, 24, 30, 37, 47] rfl rfl ?_
      repeat (first | refine Run.seq ?_ | refine Run.skip ?_)
      first | refine Run.condT rfl rfl ?_ | refine Run.condF rfl rfl ?_ | refine Run.condT rfl (by assumption) ?_ | refine Run.condF rfl (by assumption) ?_
      repeat (first | refine Run.seq ?_ | refine Run.skip ?_ | refine Run.block ?_)
      refine Run.region ?_
      refine O.store hE T5 rfl rfl rfl rfl rfl rfl ?_
      refine O.nil ?_
      try refine Run.keep [0, 1, 2, 3, 6, 7, 8, 9, 10, 11, 12, 13, 14, 20, 22, 23, 24, 30, 37, 47] rfl rfl ?_
      repeat (first | refine Run.seq ?_ | refine Run.skip ?_ | refine Run.block ?_)
      refine Run.region ?_
      refine O.move rfl rfl ?_
      refine O.lend (ln := lnD) c1 rfl rfl rfl (.inr (fun x hx => by rw [List.mem_singleton.1 hx]; rfl)) (by repeat (first | exact BxIn.nil | refine BxIn.cons rfl ?_)) rfl rfl rfl rfl rfl rfl rfl rfl rfl rfl ?_
      refine O.move rfl rfl ?_
      refine O.extract rfl rfl rfl ?_
      refine O.extract rfl rfl rfl ?_
      refine O.alloc hE 13 T60 rfl rfl rfl ?_
      refine O.store hE T60 rfl rfl rfl rfl rfl rfl ?_
      refine O.assign rfl rfl ?_
      refine O.nil ?_
      try refine Run.keep [0, 1, 2, 3, 6, 7, 8, 9, 10, 11, 12, 13, 14, 20, 22, 23, 24, 30, 37, 47] rfl rfl ?_
      repeat (first | refine Run.seq ?_ | refine Run.skip ?_ | refine Run.block ?_)
      refine Run.region ?_
      refine O.move rfl rfl ?_
      first | refine O.cmp rfl rfl rfl (by first | exact decide_eq_true (by omega) | exact decide_eq_false (by omega)) rfl ?_ | refine O.cmp rfl rfl rfl rfl rfl ?_
      refine O.nil ?_
      try refine Run.keep [0, 1, 2, 3, 6, 7, 8, 9, 10, 11, 12, 13, 14, 20, 22, 23, 24, 30, 37, 47] rfl rfl ?_
      repeat (first | refine Run.seq ?_ | refine Run.skip ?_)
      first | refine Run.condT rfl rfl ?_ | refine Run.condF rfl rfl ?_ | refine Run.condT rfl (by assumption) ?_ | refine Run.condF rfl (by assumption) ?_
      repeat (first | refine Run.seq ?_ | refine Run.skip ?_ | refine Run.block ?_)
      refine Run.region ?_
      refine O.move rfl rfl ?_
      refine O.load hE T60 rfl rfl rfl rfl ?_
      refine O.litV hE T37 rfl T60 rfl rfl rfl rfl rfl rfl rfl ?_
      refine O.appV vlE (q := vs.take j) (r := [⟨k, n, bt, t⟩]) hE T37 rfl T60 rfl rfl rfl rfl rfl newest_pv rfl rfl rfl rfl (by simp; omega) (by simp [maxLen]; omega) rfl ?_
      refine O.assign rfl rfl ?_
      refine O.nil ?_
      try refine Run.keep [0, 1, 2, 3, 6, 7, 8, 9, 10, 11, 12, 13, 14, 20, 22, 23, 24, 30, 37, 47] rfl rfl ?_
      repeat (first | refine Run.seq ?_ | refine Run.skip ?_ | refine Run.block ?_)
      refine Run.region ?_
      first | refine O.ar rfl rfl rfl (by exact wrap_i64 (by omega) (by omega)) rfl ?_ | refine O.ar rfl rfl rfl rfl rfl ?_
      refine O.move rfl rfl ?_
      refine O.nil ?_
      try refine Run.keep [0, 1, 2, 3, 6, 7, 8, 9, 10, 11, 12, 13, 14, 20, 22, 23, 24, 30, 37, 47] rfl rfl ?_
      refine ih (j + 1, 255) _ ?_ (by dsimp only; omega) (by dsimp only; omega)
      dsimp only
      rw [htk]
      exact SLe.drop (by repeat (first | exact TmIn.nil | refine TmIn.cons rfl ?_)) (by repeat (first | exact BxIn.nil | refine BxIn.cons rfl ?_)) rfl rfl
    | false =>
      rw [show flB false = 0 from rfl] at c1
      repeat (first | refine Run.seq ?_ | refine Run.skip ?_ | refine Run.block ?_)
      refine Run.region ?_
      first | refine O.cmp rfl rfl rfl (by first | exact decide_eq_true (by omega) | exact decide_eq_false (by omega)) rfl ?_ | refine O.cmp rfl rfl rfl rfl rfl ?_
      refine O.nil ?_
      try refine Run.keep [0, 1, 2, 3, 6, 7, 8, 9, 10, 11, 12, 13, 14, 20, 22, 23, 24, 30, 37, 47] rfl rfl ?_
      repeat (first | refine Run.seq ?_ | refine Run.skip ?_)
      first | refine Run.condT rfl rfl ?_ | refine Run.condF rfl rfl ?_ | refine Run.condT rfl (by assumption) ?_ | refine Run.condF rfl (by assumption) ?_
      repeat (first | refine Run.seq ?_ | refine Run.skip ?_ | refine Run.block ?_)
      refine Run.region ?_
      refine O.move rfl rfl ?_
      refine O.assign rfl rfl ?_
      refine O.nil ?_
      try refine Run.keep [0, 1, 2, 3, 6, 7, 8, 9, 10, 11, 12, 13, 14, 20, 22, 23, 24, 30, 37, 47] rfl rfl ?_
      repeat (first | refine Run.seq ?_ | refine Run.skip ?_ | refine Run.block ?_)
      refine Run.region ?_
      refine O.store hE T5 rfl rfl rfl rfl rfl rfl ?_
      refine O.nil ?_
      try refine Run.keep [0, 1, 2, 3, 6, 7, 8, 9, 10, 11, 12, 13, 14, 20, 22, 23, 24, 30, 37, 47] rfl rfl ?_
      repeat (first | refine Run.seq ?_ | refine Run.skip ?_ | refine Run.block ?_)
      refine Run.region ?_
      refine O.move rfl rfl ?_
      refine O.move rfl rfl ?_
      refine O.shr rfl rfl (by first | omega | (exact wrap_nn rfl _)) rfl ?_
      refine O.bit rfl rfl rfl rfl ?_
      refine O.cmp (c' := dnB down j) rfl rfl rfl rfl rfl ?_
      refine O.nil ?_
      try refine Run.keep [0, 1, 2, 3, 6, 7, 8, 9, 10, 11, 12, 13, 14, 20, 22, 23, 24, 30, 37, 47] rfl rfl ?_
      repeat (first | refine Run.seq ?_ | refine Run.skip ?_)
      first | refine Run.condT rfl rfl ?_ | refine Run.condF rfl rfl ?_ | refine Run.condT rfl (by assumption) ?_ | refine Run.condF rfl (by assumption) ?_
      repeat (first | refine Run.seq ?_ | refine Run.skip ?_ | refine Run.block ?_)
      refine Run.region ?_
      refine O.move rfl rfl ?_
      refine O.lend (ln := lnD) c1 rfl rfl rfl (.inr (fun x hx => by rw [List.mem_singleton.1 hx]; rfl)) (by repeat (first | exact BxIn.nil | refine BxIn.cons rfl ?_)) rfl rfl rfl rfl rfl rfl rfl rfl rfl rfl ?_
      refine O.move rfl rfl ?_
      refine O.extract rfl rfl rfl ?_
      refine O.extract rfl rfl rfl ?_
      refine O.alloc hE 13 T60 rfl rfl rfl ?_
      refine O.store hE T60 rfl rfl rfl rfl rfl rfl ?_
      refine O.assign rfl rfl ?_
      refine O.nil ?_
      try refine Run.keep [0, 1, 2, 3, 6, 7, 8, 9, 10, 11, 12, 13, 14, 20, 22, 23, 24, 30, 37, 47] rfl rfl ?_
      repeat (first | refine Run.seq ?_ | refine Run.skip ?_ | refine Run.block ?_)
      refine Run.region ?_
      refine O.move rfl rfl ?_
      first | refine O.cmp rfl rfl rfl (by first | exact decide_eq_true (by omega) | exact decide_eq_false (by omega)) rfl ?_ | refine O.cmp rfl rfl rfl rfl rfl ?_
      refine O.nil ?_
      try refine Run.keep [0, 1, 2, 3, 6, 7, 8, 9, 10, 11, 12, 13, 14, 20, 22, 23, 24, 30, 37, 47] rfl rfl ?_
      repeat (first | refine Run.seq ?_ | refine Run.skip ?_)
      first | refine Run.condT rfl rfl ?_ | refine Run.condF rfl rfl ?_ | refine Run.condT rfl (by assumption) ?_ | refine Run.condF rfl (by assumption) ?_
      repeat (first | refine Run.seq ?_ | refine Run.skip ?_ | refine Run.block ?_)
      refine Run.region ?_
      refine O.move rfl rfl ?_
      refine O.load hE T60 rfl rfl rfl rfl ?_
      refine O.litV hE T37 rfl T60 rfl rfl rfl rfl rfl rfl rfl ?_
      refine O.appV vlE (q := vs.take j) (r := [⟨k, n, bt, t⟩]) hE T37 rfl T60 rfl rfl rfl rfl rfl newest_pv rfl rfl rfl rfl (by simp; omega) (by simp [maxLen]; omega) rfl ?_
      refine O.assign rfl rfl ?_
      refine O.nil ?_
      try refine Run.keep [0, 1, 2, 3, 6, 7, 8, 9, 10, 11, 12, 13, 14, 20, 22, 23, 24, 30, 37, 47] rfl rfl ?_
      repeat (first | refine Run.seq ?_ | refine Run.skip ?_ | refine Run.block ?_)
      refine Run.region ?_
      first | refine O.ar rfl rfl rfl (by exact wrap_i64 (by omega) (by omega)) rfl ?_ | refine O.ar rfl rfl rfl rfl rfl ?_
      refine O.move rfl rfl ?_
      refine O.nil ?_
      try refine Run.keep [0, 1, 2, 3, 6, 7, 8, 9, 10, 11, 12, 13, 14, 20, 22, 23, 24, 30, 37, 47] rfl rfl ?_
      refine ih (j + 1, 0) _ ?_ (by dsimp only; omega) (by dsimp only; omega)
      dsimp only
      rw [htk]
      exact SLe.drop (by repeat (first | exact TmIn.nil | refine TmIn.cons rfl ?_)) (by repeat (first | exact BxIn.nil | refine BxIn.cons rfl ?_)) rfl rfl
  have hj' : j = vs.length := by omega
  subst hj'
  rw [List.take_length, hend]
  repeat (first | refine Run.seq ?_ | refine Run.skip ?_ | refine Run.block ?_)
  refine Run.region ?_
  first | refine O.cmp rfl rfl rfl (by first | exact decide_eq_true (by omega) | exact decide_eq_false (by omega)) rfl ?_ | refine O.cmp rfl rfl rfl rfl rfl ?_
  refine O.nil ?_
  try refine Run.keep [0, 1, 2, 3, 6, 7, 8, 9, 10, 11, 12, 13, 14, 20, 22, 23, 24, 30, 37, 47] rfl rfl ?_
  repeat (first | refine Run.seq ?_ | refine Run.skip ?_)
  first | refine Run.condT rfl rfl ?_ | refine Run.condF rfl rfl ?_ | refine Run.condT rfl (by assumption) ?_ | refine Run.condF rfl (by assumption) ?_
  refine Run.exit ?_
  repeat (first | refine thenR_exit ?_ | refine roundR_exit ?_ | refine blockR_exit ?_ | refine blockR_pass rfl ?_)
  repeat (first | refine Run.seq ?_ | refine Run.skip ?_ | refine Run.block ?_)
  refine Run.region ?_
  first | refine O.loadS hE T3 rfl rfl rfl (by rfl) rfl ?_ | refine O.loadE hE T3 rfl rfl (by rfl) rfl ?_ | refine O.load hE T3 rfl rfl rfl rfl ?_
  first | refine O.loadS hE T27 rfl rfl rfl (by rfl) rfl ?_ | refine O.loadE hE T27 rfl rfl (by rfl) rfl ?_ | refine O.load hE T27 rfl rfl rfl rfl ?_
  first | refine O.lenN hE T27 rfl rfl rfl (by first | exact newest_pv | exact newest_gl rfl rfl | trivial) lenC rfl ?_ | refine O.lenLst hE T27 rfl rfl rfl (by first | exact newest_pv | exact newest_gl rfl rfl | trivial) rfl ?_
  first | refine O.cmp rfl rfl rfl (by first | exact decide_eq_true (by omega) | exact decide_eq_false (by omega)) rfl ?_ | refine O.cmp rfl rfl rfl rfl rfl ?_
  refine O.nil ?_
  try refine Run.keep [0, 1, 2, 3, 6, 7, 8, 9, 10, 11, 12, 13, 14, 20, 22, 23, 24, 30, 37, 47] rfl rfl ?_
  repeat (first | refine Run.seq ?_ | refine Run.skip ?_)
  first | refine Run.condT rfl rfl ?_ | refine Run.condF rfl rfl ?_ | refine Run.condT rfl (by assumption) ?_ | refine Run.condF rfl (by assumption) ?_
  repeat (first | refine Run.seq ?_ | refine Run.skip ?_ | refine Run.block ?_)
  refine Run.region ?_
  refine O.assign rfl rfl ?_
  refine O.assign rfl rfl ?_
  refine O.nil ?_
  try refine Run.keep [0, 1, 2, 3, 6, 7, 8, 9, 10, 11, 12, 13, 14, 20, 22, 23, 24, 30, 37, 47] rfl rfl ?_
  refine Run.ret ?_
  exact Ends.of hE (.inr rfl) rfl rfl (SLe.res0 (AVle.of_eq rfl) rfl)
theorem fnDecodeBad {vs : List Vl} {n : Nat} {b rest : List Int} (hl : n ≤ 5) (hn : vs.length < n) (hR : ∀ v ∈ vs, ReadOk g v) (down : Int) (hbx : b.length ≤ 9223372036854775807) (hbe : b = encP down 0 vs ++ rest) (hbad : ReadBad g b (encP down 0 vs).length (dnB down vs.length)) : ∃ e : Int, e ≠ 0 ∧ FnC (En Tryd.prog g) 21 [.pv (byv b), .pv (.int .i64 n), .pv (.int .i64 down)] (.tup [.pv .nil, .pv (.int .i64 e)]) [] := by
  obtain ⟨e, Q, he, cb⟩ := hbad
  refine ⟨e, he, ?_⟩
  have hE := EnOk g
  have hat0 := fun (j : Nat) (v : Vl) (h : vs[j]? = some v) => enc_more (down := down) (more := rest) h
  rw [← hbe] at hat0
  have hend : (encP down 0 (vs.take vs.length)).length = (encP down 0 vs).length := by rw [List.take_length]
  rw [← hend] at cb
  have hzero : (encP down 0 (vs.take 0)).length = 0 := by rw [List.take_zero, encP]; rfl
  obtain ⟨P, hP⟩ : ∃ P : Nat → Nat, ∀ j, P j = (encP down 0 (vs.take j)).length := ⟨_, fun _ => rfl⟩
  rw [← hP] at hzero cb
  clear hbe hend
  refine FnC.of Tryd.func21 rfl rfl rfl rfl ?_
  repeat (first | refine Run.seq ?_ | refine Run.skip ?_ | refine Run.block ?_)
  refine Run.region ?_
  refine O.box 3 rfl (by first | rfl | exact cells_ones (by simp [ones_app, ones_ints, ones, AV.one, PV.one])) rfl rfl ?_
  refine O.assign rfl rfl ?_
  refine O.assign rfl rfl ?_
  refine O.nil ?_
  try refine Run.keep [0, 1, 2, 3, 6, 7, 8, 9, 10, 11, 12, 13, 14, 20, 22, 23, 24, 30, 37, 47] rfl rfl ?_
  repeat (first | refine Run.seq ?_ | refine Run.skip ?_ | refine Run.block ?_)
  refine Run.region ?_
  refine O.move rfl rfl ?_
  first | refine O.cmp rfl rfl rfl (by first | exact decide_eq_true (by omega) | exact decide_eq_false (by omega)) rfl ?_ | refine O.cmp rfl rfl rfl rfl rfl ?_
  refine O.move rfl rfl ?_
  first | (refine O.yes rfl rfl (by first | rfl | assumption) ?_; refine O.move rfl rfl ?_) | refine O.no rfl rfl rfl rfl ?_
  first | (refine O.yes rfl rfl (by first | rfl | assumption) ?_; first | refine O.cmp rfl rfl rfl (by first | exact decide_eq_true (by omega) | exact decide_eq_false (by omega)) rfl ?_ | refine O.cmp rfl rfl rfl rfl rfl ?_) | refine O.no rfl rfl rfl rfl ?_
  refine O.pick rfl rfl rfl rfl rfl ?_
  refine O.nil ?_
  try refine Run.keep [0, 1, 2, 3, 6, 7, 8, 9, 10, 11, 12, 13, 14, 20, 22, 23, 24, 30, 37, 47] rfl rfl ?_
  repeat (first | refine Run.seq ?_ | refine Run.skip ?_)
  first | refine Run.condT rfl rfl ?_ | refine Run.condF rfl rfl ?_ | refine Run.condT rfl (by assumption) ?_ | refine Run.condF rfl (by assumption) ?_
  repeat (first | refine Run.seq ?_ | refine Run.skip ?_ | refine Run.block ?_)
  refine Run.region ?_
  refine O.alloc hE 8 T3 rfl rfl rfl ?_
  refine O.alloc hE 9 T5 rfl rfl rfl ?_
  refine O.store hE T3 rfl rfl rfl rfl rfl rfl ?_
  refine O.store hE T5 rfl rfl rfl rfl rfl rfl ?_
  refine O.nil ?_
  try refine Run.keep [0, 1, 2, 3, 6, 7, 8, 9, 10, 11, 12, 13, 14, 20, 22, 23, 24, 30, 37, 47] rfl rfl ?_
  repeat (first | refine Run.seq ?_ | refine Run.skip ?_ | refine Run.block ?_)
  refine Run.region ?_
  refine O.makeFunc rfl rfl ?_
  refine O.assign rfl rfl ?_
  refine O.nil ?_
  try refine Run.keep [0, 1, 2, 3, 6, 7, 8, 9, 10, 11, 12, 13, 14, 20, 22, 23, 24, 30, 37, 47] rfl rfl ?_
  repeat (first | refine Run.seq ?_ | refine Run.skip ?_ | refine Run.block ?_)
  refine Run.region ?_
  refine O.assign rfl rfl ?_
  refine O.nil ?_
  try refine Run.keep [0, 1, 2, 3, 6, 7, 8, 9, 10, 11, 12, 13, 14, 20, 22, 23, 24, 30, 37, 47] rfl rfl ?_
  refine Run.pre (SLe.nilBox (t := 11) (b := 111) (e := 60) (sz := 4) rfl rfl rfl rfl) ?_
  repeat (first | refine Run.seq ?_ | refine Run.skip ?_ | refine Run.block ?_)
  refine Run.region ?_
  refine O.move rfl rfl ?_
  refine O.move rfl rfl ?_
  refine O.nil ?_
  try refine Run.keep [0, 1, 2, 3, 6, 7, 8, 9, 10, 11, 12, 13, 14, 20, 22, 23, 24, 30, 37, 47] rfl rfl ?_
  repeat (first | refine Run.seq ?_ | refine Run.skip ?_)
  refine Run.block ?_
  refine Run.loopInv (ι := Nat × Int) (fun q => q.1 ≤ vs.length) (fun q => ⟨49, [(2, .pv (.int .i64 down)), (3, .ptr 3 0), (8, .ptr 8 0), (9, .ptr 9 0), (10, cloD), (11, .gl 111 (vs.take q.1).length), (22, .pv (.int .i64 n)), (23, .pv (.int .i64 (q.1 : Int)))], [(8, .var [.pv (.int .i64 (P q.1 : Int))]), (3, .var [.pv (byv b)]), (9, .var [.pv (.int .u8 q.2)]), (111, .lst 60 4 ((vs.take q.1).map vlE))]⟩) (fun q => vs.length - q.1) (0, 0) (Nat.zero_le _) ?_ ?_
  ·
    dsimp only
    rw [hzero]
    refine SLe.eqv (by repeat (first | exact TmIn.nil | refine TmIn.cons rfl ?_)) (by repeat (first | exact BxIn.nil | refine BxIn.cons rfl ?_)) rfl
  rintro ⟨j, f0⟩ hj ih
  dsimp only at hj ih ⊢
  by_cases hlt : j < vs.length
  ·
    obtain ⟨v, hv⟩ : ∃ v, vs[j]? = some v := ⟨_, List.getElem?_eq_getElem (by omega)⟩
    obtain ⟨a1, a2⟩ := hat0 j v hv
    rw [← hP] at a1 a2
    rw [← hP] at a2
    have c1 := hR v (List.mem_of_getElem? hv) b (P j) (dnB down j) _ (by omega) a1
    rw [← a2] at c1
    have htk : vs.take (j + 1) = vs.take j ++ [v] := by rw [List.take_add_one, hv]; rfl
    have hjl : (vs.take j).length = j := by rw [List.length_take]; omega
    clear a1 a2
    obtain ⟨k, m, bt, t⟩ := v
    dsimp only [vlA] at c1
    obtain ⟨B, hB⟩ : ∃ B, dnB down j = B := ⟨_, rfl⟩
    rw [hB] at c1
    cases B with
    | true =>
      rw [show flB true = 255 from rfl] at c1
      repeat (first | refine Run.seq ?_ | refine Run.skip ?_ | refine Run.block ?_)
      refine Run.region ?_
      first | refine O.cmp rfl rfl rfl (by first | exact decide_eq_true (by omega) | exact decide_eq_false (by omega)) rfl ?_ | refine O.cmp rfl rfl rfl rfl rfl ?_
      refine O.nil ?_
      try refine Run.keep [0, 1, 2, 3, 6, 7, 8, 9, 10, 11, 12, 13, 14, 20, 22, 23, 24, 30, 37, 47] rfl rfl ?_
      repeat (first | refine Run.seq ?_ | refine Run.skip ?_)
      first | refine Run.condT rfl rfl ?_ | refine Run.condF rfl rfl ?_ | refine Run.condT rfl (by assumption) ?_ | refine Run.condF rfl (by assumption) ?_
      repeat (first | refine Run.seq ?_ | refine Run.skip ?_ | refine Run.block ?_)
      refine Run.region ?_
      refine O.move rfl rfl ?_
      refine O.assign rfl rfl ?_
      refine O.nil ?_
      try refine Run.keep [0, 1, 2, 3, 6, 7, 8, 9, 10, 11, 12, 13, 14, 20, 22, 23, 24, 30, 37, 47] rfl rfl ?_
      repeat (first | refine Run.seq ?_ | refine Run.skip ?_ | refine Run.block ?_)
      refine Run.region ?_
      refine O.store hE T5 rfl rfl rfl rfl rfl rfl ?_
      refine O.nil ?_
      try refine Run.keep [0, 1, 2, 3, 6, 7, 8, 9, 10, 11, 12, 13, 14, 20, 22, 23, 24, 30, 37, 47] rfl rfl ?_
      repeat (first | refine Run.seq ?_ | refine Run.skip ?_ | refine Run.block ?_)
      refine Run.region ?_
      refine O.move rfl rfl ?_
      refine O.move rfl rfl ?_
      refine O.shr rfl rfl (by first | omega | (exact wrap_nn rfl _)) rfl ?_
      refine O.bit rfl rfl rfl rfl ?_
      refine O.cmp (c' := dnB down j) rfl rfl rfl rfl rfl ?_
      refine O.nil ?_
      try refine Run.keep [0, 1, 2, 3, 6, 7, 8, 9, 10, 11, 12, 13, 14, 20, 22, 23, 24, 30, 37, 47] rfl rfl ?_
      repeat (first | refine Run.seq ?_ | refine Run.skip ?_)
      first | refine Run.condT rfl rfl ?_ | refine Run.condF rfl rfl ?_ | refine Run.condT rfl (by assumption) ?_ | refine Run.condF rfl (by assumption) ?_
      repeat (first | refine Run.seq ?_ | refine Run.skip ?_ | refine Run.block ?_)
      refine Run.region ?_
      refine O.store hE T5 rfl rfl rfl rfl rfl rfl ?_
      refine O.nil ?_
      try refine Run.keep [0, 1, 2, 3, 6, 7, 8, 9, 10, 11, 12, 13, 14, 20, 22, 23, 24, 30, 37, 47] rfl rfl ?_
      repeat (first | refine Run.seq ?_ | refine Run.skip ?_ | refine Run.block ?_)
      refine Run.region ?_
      refine O.move rfl rfl ?_
      refine O.lend (ln := lnD) c1 rfl rfl rfl (.inr (fun x hx => by rw [List.mem_singleton.1 hx]; rfl)) (by repeat (first | exact BxIn.nil | refine BxIn.cons rfl ?_)) rfl rfl rfl rfl rfl rfl rfl rfl rfl rfl ?_
      refine O.move rfl rfl ?_
      refine O.extract rfl rfl rfl ?_
      refine O.extract rfl rfl rfl ?_
      refine O.alloc hE 13 T60 rfl rfl rfl ?_
      refine O.store hE T60 rfl rfl rfl rfl rfl rfl ?_
      refine O.assign rfl rfl ?_
      refine O.nil ?_
      try refine Run.keep [0, 1, 2, 3, 6, 7, 8, 9, 10, 11, 12, 13, 14, 20, 22, 23, 24, 30, 37, 47] rfl rfl ?_
      repeat (first | refine Run.seq ?_ | refine Run.skip ?_ | refine Run.block ?_)
      refine Run.region ?_
      refine O.move rfl rfl ?_
      first | refine O.cmp rfl rfl rfl (by first | exact decide_eq_true (by omega) | exact decide_eq_false (by omega)) rfl ?_ | refine O.cmp rfl rfl rfl rfl rfl ?_
      refine O.nil ?_
      try refine Run.keep [0, 1, 2, 3, 6, 7, 8, 9, 10, 11, 12, 13, 14, 20, 22, 23, 24, 30, 37, 47] rfl rfl ?_
      repeat (first | refine Run.seq ?_ | refine Run.skip ?_)
      first | refine Run.condT rfl rfl ?_ | refine Run.condF rfl rfl ?_ | refine Run.condT rfl (by assumption) ?_ | refine Run.condF rfl (by assumption) ?_
      repeat (first | refine Run.seq ?_ | refine Run.skip ?_ | refine Run.block ?_)
      refine Run.region ?_
      refine O.move rfl rfl ?_
      refine O.load hE T60 rfl rfl rfl rfl ?_
      refine O.litV hE T37 rfl T60 rfl rfl rfl rfl rfl rfl rfl ?_
      refine O.appV vlE (q := vs.take j) (r := [⟨k, m, bt, t⟩]) hE T37 rfl T60 rfl rfl rfl rfl rfl newest_pv rfl rfl rfl rfl (by simp; omega) (by simp [maxLen]; omega) rfl ?_
      refine O.assign rfl rfl ?_
      refine O.nil ?_
      try refine Run.keep [0, 1, 2, 3, 6, 7, 8, 9, 10, 11, 12, 13, 14, 20, 22, 23, 24, 30, 37, 47] rfl rfl ?_
      repeat (first | refine Run.seq ?_ | refine Run.skip ?_ | refine Run.block ?_)
      refine Run.region ?_
      first | refine O.ar rfl rfl rfl (by exact wrap_i64 (by omega) (by omega)) rfl ?_ | refine O.ar rfl rfl rfl rfl rfl ?_
      refine O.move rfl rfl ?_
      refine O.nil ?_
      try refine Run.keep [0, 1, 2, 3, 6, 7, 8, 9, 10, 11, 12, 13, 14, 20, 22, 23, 24, 30, 37, 47] rfl rfl ?_
      refine ih (j + 1, 255) _ ?_ (by dsimp only; omega) (by dsimp only; omega)
      dsimp only
      rw [htk]
      exact SLe.drop (by repeat (first | exact TmIn.nil | refine TmIn.cons rfl ?_)) (by repeat (first | exact BxIn.nil | refine BxIn.cons rfl ?_)) rfl rfl
    | false =>
      rw [show flB false = 0 from rfl] at c1
      repeat (first | refine Run.seq ?_ | refine Run.skip ?_ | refine Run.block ?_)
      refine Run.region ?_
      first | refine O.cmp rfl rfl rfl (by first | exact decide_eq_true (by omega) | exact decide_eq_false (by omega)) rfl ?_ | refine O.cmp rfl rfl rfl rfl rfl ?_
      refine O.nil ?_
      try refine Run.keep [0, 1, 2, 3, 6, 7, 8, 9, 10, 11, 12, 13, 14, 20, 22, 23, 24, 30, 37, 47] rfl rfl ?_
      repeat (first | refine Run.seq ?_ | refine Run.skip ?_)
      first | refine Run.condT rfl rfl ?_ | refine Run.condF rfl rfl ?_ | refine Run.condT rfl (by assumption) ?_ | refine Run.condF rfl (by assumption) ?_
      repeat (first | refine Run.seq ?_ | refine Run.skip ?_ | refine Run.block ?_)
      refine Run.region ?_
      refine O.move rfl rfl ?_
      refine O.assign rfl rfl ?_
      refine O.nil ?_
      try refine Run.keep [0, 1, 2, 3, 6, 7, 8, 9, 10, 11, 12, 13, 14, 20, 22, 23, 24, 30, 37, 47] rfl rfl ?_
      repeat (first | refine Run.seq ?_ | refine Run.skip ?_ | refine Run.block ?_)
      refine Run.region ?_
      refine O.store hE T5 rfl rfl rfl rfl rfl rfl ?_
      refine O.nil ?_
      try refine Run.keep [0, 1, 2, 3, 6, 7, 8, 9, 10, 11, 12, 13, 14, 20, 22, 23, 24, 30, 37, 47] rfl rfl ?_
      repeat (first | refine Run.seq ?_ | refine Run.skip ?_ | refine Run.block ?_)
      refine Run.region ?_
      refine O.move rfl rfl ?_
      refine O.move rfl rfl ?_
      refine O.shr rfl rfl (by first | omega | (exact wrap_nn rfl _)) rfl ?_
      refine O.bit rfl rfl rfl rfl ?_
      refine O.cmp (c' := dnB down j) rfl rfl rfl rfl rfl ?_
      refine O.nil ?_
      try refine Run.keep [0, 1, 2, 3, 6, 7, 8, 9, 10, 11, 12, 13, 14, 20, 22, 23, 24, 30, 37, 47] rfl rfl ?_
      repeat (first | refine Run.seq ?_ | refine Run.skip ?_)
      first | refine Run.condT rfl rfl ?_ | refine Run.condF rfl rfl ?_ | refine Run.condT rfl (by assumption) ?_ | refine Run.condF rfl (by assumption) ?_
      repeat (first | refine Run.seq ?_ | refine Run.skip ?_ | refine Run.block ?_)
      refine Run.region ?_
      refine O.move rfl rfl ?_
      refine O.lend (ln := lnD) c1 rfl rfl rfl (.inr (fun x hx => by rw [List.mem_singleton.1 hx]; rfl)) (by repeat (first | exact BxIn.nil | refine BxIn.cons rfl ?_)) rfl rfl rfl rfl rfl rfl rfl rfl rfl rfl ?_
      refine O.move rfl rfl ?_
      refine O.extract rfl rfl rfl ?_
      refine O.extract rfl rfl rfl ?_
      refine O.alloc hE 13 T60 rfl rfl rfl ?_
      refine O.store hE T60 rfl rfl rfl rfl rfl rfl ?_
      refine O.assign rfl rfl ?_
      refine O.nil ?_
      try refine Run.keep [0, 1, 2, 3, 6, 7, 8, 9, 10, 11, 12, 13, 14, 20, 22, 23, 24, 30, 37, 47] rfl rfl ?_
      repeat (first | refine Run.seq ?_ | refine Run.skip ?_ | refine Run.block ?_)
      refine Run.region ?_
      refine O.move rfl rfl ?_
      first | refine O.cmp rfl rfl rfl (by first | exact decide_eq_true (by omega) | exact decide_eq_false (by omega)) rfl ?_ | refine O.cmp rfl rfl rfl rfl rfl ?_
      refine O.nil ?_
      try refine Run.keep [0, 1, 2, 3, 6, 7, 8, 9, 10, 11, 12, 13, 14, 20, 22, 23, 24, 30, 37, 47] rfl rfl ?_
      repeat (first | refine Run.seq ?_ | refine Run.skip ?_)
      first | refine Run.condT rfl rfl ?_ | refine Run.condF rfl rfl ?_ | refine Run.condT rfl (by assumption) ?_ | refine Run.condF rfl (by assumption) ?_
      repeat (first | refine Run.seq ?_ | refine Run.skip ?_ | refine Run.block ?_)
      refine Run.region ?_
      refine O.move rfl rfl ?_
      refine O.load hE T60 rfl rfl rfl rfl ?_
      refine O.litV hE T37 rfl T60 rfl rfl rfl rfl rfl rfl rfl ?_
      refine O.appV vlE (q := vs.take j) (r := [⟨k, m, bt, t⟩]) hE T37 rfl T60 rfl rfl rfl rfl rfl newest_pv rfl rfl rfl rfl (by simp; omega) (by simp [maxLen]; omega) rfl ?_
      refine O.assign rfl rfl ?_
      refine O.nil ?_
      try refine Run.keep [0, 1, 2, 3, 6, 7, 8, 9, 10, 11, 12, 13, 14, 20, 22, 23, 24, 30, 37, 47] rfl rfl ?_
      repeat (first | refine Run.seq ?_ | refine Run.skip ?_ | refine Run.block ?_)
      refine Run.region ?_
      first | refine O.ar rfl rfl rfl (by exact wrap_i64 (by omega) (by omega)) rfl ?_ | refine O.ar rfl rfl rfl rfl rfl ?_
      refine O.move rfl rfl ?_
      refine O.nil ?_
      try refine Run.keep [0, 1, 2, 3, 6, 7, 8, 9, 10, 11, 12, 13, 14, 20, 22, 23, 24, 30, 37, 47] rfl rfl ?_
      refine ih (j + 1, 0) _ ?_ (by dsimp only; omega) (by dsimp only; omega)
      dsimp only
      rw [htk]
      exact SLe.drop (by repeat (first | exact TmIn.nil | refine TmIn.cons rfl ?_)) (by repeat (first | exact BxIn.nil | refine BxIn.cons rfl ?_)) rfl rfl
  obtain rfl : j = vs.length := by omega
  have c1 := cb
  have hjl : (vs.take vs.length).length = vs.length := by rw [List.length_take]; omega
  obtain ⟨B, hB⟩ : ∃ B, dnB down vs.length = B := ⟨_, rfl⟩
  rw [hB] at c1
  cases B with
  | true =>
    rw [show flB true = 255 from rfl] at c1
    repeat (first | refine Run.seq ?_ | refine Run.skip ?_ | refine Run.block ?_)
    refine Run.region ?_
    first | refine O.cmp rfl rfl rfl (by first | exact decide_eq_true (by omega) | exact decide_eq_false (by omega)) rfl ?_ | refine O.cmp rfl rfl rfl rfl rfl ?_
    refine O.nil ?_
    try refine Run.keep [0, 1, 2, 3, 6, 7, 8, 9, 10, 11, 12, 13, 14, 20, 22, 23, 24, 30, 37, 47] rfl rfl ?_
    repeat (first | refine Run.seq ?_ | refine Run.skip ?_)
    first | refine Run.condT rfl rfl ?_ | refine Run.condF rfl rfl ?_ | refine Run.condT rfl (by assumption) ?_ | refine Run.condF rfl (by assumption) ?_
    repeat (first | refine Run.seq ?_ | refine Run.skip ?_ | refine Run.block ?_)
    refine Run.region ?_
    refine O.move rfl rfl ?_
    refine O.assign rfl rfl ?_
    refine O.nil ?_
    try refine Run.keep [0, 1, 2, 3, 6, 7, 8, 9, 10, 11, 12, 13, 14, 20, 22, 23, 24, 30, 37, 47] rfl rfl ?_
    repeat (first | refine Run.seq ?_ | refine Run.skip ?_ | refine Run.block ?_)
    refine Run.region ?_
    refine O.store hE T5 rfl rfl rfl rfl rfl rfl ?_
    refine O.nil ?_
    try refine Run.keep [0, 1, 2, 3, 6, 7, 8, 9, 10, 11, 12, 13, 14, 20, 22, 23, 24, 30, 37, 47] rfl rfl ?_
    repeat (first | refine Run.seq ?_ | refine Run.skip ?_ | refine Run.block ?_)
    refine Run.region ?_
    refine O.move rfl rfl ?_
    refine O.move rfl rfl ?_
    refine O.shr rfl rfl (by first | omega | (exact wrap_nn rfl _)) rfl ?_
    refine O.bit rfl rfl rfl rfl ?_
    refine O.cmp (c' := dnB down vs.length) rfl rfl rfl rfl rfl ?_
    refine O.nil ?_
    try refine Run.keep [0, 1, 2, 3, 6, 7, 8, 9, 10, 11, 12, 13, 14, 20, 22, 23, 24, 30, 37, 47] rfl rfl ?_
    repeat (first | refine Run.seq ?_ | refine Run.skip ?_)
    first | refine Run.condT rfl rfl ?_ | refine Run.condF rfl rfl ?_ | refine Run.condT rfl (by assumption) ?_ | refine Run.condF rfl (by assumption) ?_
    repeat (first | refine Run.seq ?_ | refine Run.skip ?_ | refine Run.block ?_)
    refine Run.region ?_
    refine O.store hE T5 rfl rfl rfl rfl rfl rfl ?_
    refine O.nil ?_
    try refine Run.keep [0, 1, 2, 3, 6, 7, 8, 9, 10, 11, 12, 13, 14, 20, 22, 23, 24, 30, 37, 47] rfl rfl ?_
    repeat (first | refine Run.seq ?_ | refine Run.skip ?_ | refine Run.block ?_)
    refine Run.region ?_
    refine O.move rfl rfl ?_
    refine O.lend (ln := lnD) c1 rfl rfl rfl (.inr (fun x hx => by rw [List.mem_singleton.1 hx]; rfl)) (by repeat (first | exact BxIn.nil | refine BxIn.cons rfl ?_)) rfl rfl rfl rfl rfl rfl rfl rfl rfl rfl ?_
    refine O.move rfl rfl ?_
    refine O.extract rfl rfl rfl ?_
    refine O.extract rfl rfl rfl ?_
    refine O.alloc hE 13 T60 rfl rfl rfl ?_
    refine O.store hE T60 rfl rfl rfl rfl rfl rfl ?_
    refine O.assign rfl rfl ?_
    refine O.nil ?_
    try refine Run.keep [0, 1, 2, 3, 6, 7, 8, 9, 10, 11, 12, 13, 14, 20, 22, 23, 24, 30, 37, 47] rfl rfl ?_
    repeat (first | refine Run.seq ?_ | refine Run.skip ?_ | refine Run.block ?_)
    refine Run.region ?_
    refine O.move rfl rfl ?_
    refine O.cmp (c' := true) rfl rfl rfl (by simpa using he) rfl ?_
    refine O.nil ?_
    try refine Run.keep [0, 1, 2, 3, 6, 7, 8, 9, 10, 11, 12, 13, 14, 20, 22, 23, 24, 30, 37, 47] rfl rfl ?_
    repeat (first | refine Run.seq ?_ | refine Run.skip ?_)
    first | refine Run.condT rfl rfl ?_ | refine Run.condF rfl rfl ?_ | refine Run.condT rfl (by assumption) ?_ | refine Run.condF rfl (by assumption) ?_
    repeat (first | refine Run.seq ?_ | refine Run.skip ?_ | refine Run.block ?_)
    refine Run.region ?_
    refine O.move rfl rfl ?_
    refine O.assign rfl rfl ?_
    refine O.assign rfl rfl ?_
    refine O.nil ?_
    try refine Run.keep [0, 1, 2, 3, 6, 7, 8, 9, 10, 11, 12, 13, 14, 20, 22, 23, 24, 30, 37, 47] rfl rfl ?_
    refine Run.ret ?_
    repeat (first | refine thenR_ret ?_ | refine roundR_ret ?_ | refine blockR_ret ?_)
    exact Ends.of hE (.inr rfl) rfl rfl (SLe.res0 (AVle.of_eq rfl) rfl)
  | false =>
    rw [show flB false = 0 from rfl] at c1
    repeat (first | refine Run.seq ?_ | refine Run.skip ?_ | refine Run.block ?_)
    refine Run.region ?_
    first | refine O.cmp rfl rfl rfl (by first | exact decide_eq_true (by omega) | exact decide_eq_false (by omega)) rfl ?_ | refine O.cmp rfl rfl rfl rfl rfl ?_
    refine O.nil ?_
    try refine Run.keep [0, 1, 2, 3, 6, 7, 8, 9, 10, 11, 12, 13, 14, 20, 22, 23, 24, 30, 37, 47] rfl rfl ?_
    repeat (first | refine Run.seq ?_ | refine Run.skip ?_)
    first | refine Run.condT rfl rfl ?_ | refine Run.condF rfl rfl ?_ | refine Run.condT rfl (by assumption) ?_ | refine Run.condF rfl (by assumption) ?_
    repeat (first | refine Run.seq ?_ | refine Run.skip ?_ | refine Run.block ?_)
    refine Run.region ?_
    refine O.move rfl rfl ?_
    refine O.assign rfl rfl ?_
    refine O.nil ?_
    try refine Run.keep [0, 1, 2, 3, 6, 7, 8, 9, 10, 11, 12, 13, 14, 20, 22, 23, 24, 30, 37, 47] rfl rfl ?_
    repeat (first | refine Run.seq ?_ | refine Run.skip ?_ | refine Run.block ?_)
    refine Run.region ?_
    refine O.store hE T5 rfl rfl rfl rfl rfl rfl ?_
    refine O.nil ?_
    try refine Run.keep [0, 1, 2, 3, 6, 7, 8, 9, 10, 11, 12, 13, 14, 20, 22, 23, 24, 30, 37, 47] rfl rfl ?_
    repeat (first | refine Run.seq ?_ | refine Run.skip ?_ | refine Run.block ?_)
    refine Run.region ?_
    refine O.move rfl rfl ?_
    refine O.move rfl rfl ?_
    refine O.shr rfl rfl (by first | omega | (exact wrap_nn rfl _)) rfl ?_
    refine O.bit rfl rfl rfl rfl ?_
    refine O.cmp (c' := dnB down vs.length) rfl rfl rfl rfl rfl ?_
    refine O.nil ?_
    try refine Run.keep [0, 1, 2, 3, 6, 7, 8, 9, 10, 11, 12, 13, 14, 20, 22, 23, 24, 30, 37, 47] rfl rfl ?_
    repeat (first | refine Run.seq ?_ | refine Run.skip ?_)
    first | refine Run.condT rfl rfl ?_ | refine Run.condF rfl rfl ?_ | refine Run.condT rfl (by assumption) ?_ | refine Run.condF rfl (by assumption) ?_
    repeat (first | refine Run.seq ?_ | refine Run.skip ?_ | refine Run.block ?_)
    refine Run.region ?_
    refine O.move rfl rfl ?_
    refine O.lend (ln := lnD) c1 rfl rfl rfl (.inr (fun x hx => by rw [List.mem_singleton.1 hx]; rfl)) (by repeat (first | exact BxIn.nil | refine BxIn.cons rfl ?_)) rfl rfl rfl rfl rfl rfl rfl rfl rfl rfl ?_
    refine O.move rfl rfl ?_
    refine O.extract rfl rfl rfl ?_
    refine O.extract rfl rfl rfl ?_
    refine O.alloc hE 13 T60 rfl rfl rfl ?_
    refine O.store hE T60 rfl rfl rfl rfl rfl rfl ?_
    refine O.assign rfl rfl ?_
    refine O.nil ?_
    try refine Run.keep [0, 1, 2, 3, 6, 7, 8, 9, 10, 11, 12, 13, 14, 20, 22, 23, 24, 30, 37, 47] rfl rfl ?_
    repeat (first | refine Run.seq ?_ | refine Run.skip ?_ | refine Run.block ?_)
    refine Run.region ?_
    refine O.move rfl rfl ?_
    refine O.cmp (c' := true) rfl rfl rfl (by simpa using he) rfl ?_
    refine O.nil ?_
    try refine Run.keep [0, 1, 2, 3, 6, 7, 8, 9, 10, 11, 12, 13, 14, 20, 22, 23, 24, 30, 37, 47] rfl rfl ?_
    repeat (first | refine Run.seq ?_ | refine Run.skip ?_)
    first | refine Run.condT rfl rfl ?_ | refine Run.condF rfl rfl ?_ | refine Run.condT rfl (by assumption) ?_ | refine Run.condF rfl (by assumption) ?_
    repeat (first | refine Run.seq ?_ | refine Run.skip ?_ | refine Run.block ?_)
    refine Run.region ?_
    refine O.move rfl rfl ?_
    refine O.assign rfl rfl ?_
    refine O.assign rfl rfl ?_
    refine O.nil ?_
    try refine Run.keep [0, 1, 2, 3, 6, 7, 8, 9, 10, 11, 12, 13, 14, 20, 22, 23, 24, 30, 37, 47] rfl rfl ?_
    refine Run.ret ?_
    repeat (first | refine thenR_ret ?_ | refine roundR_ret ?_ | refine blockR_ret ?_)
    exact Ends.of hE (.inr rfl) rfl rfl (SLe.res0 (AVle.of_eq rfl) rfl)
end
/-- Bytes. -/
abbrev Bys (l : List Int) : Prop := ∀ c ∈ l, 0 ≤ c ∧ c < 256
theorem flip_fin2 : ∀ (B : Bool) (c : Fin 256), flipB B (flipB B ((c.val : Nat) : Int)) = ((c.val : Nat) : Int) ∧ 0 ≤ flipB B ((c.val : Nat) : Int) ∧ flipB B ((c.val : Nat) : Int) < 256 := by decide +kernel
theorem flip_two (B : Bool) {c : Int} (h : 0 ≤ c ∧ c < 256) : flipB B (flipB B c) = c ∧ 0 ≤ flipB B c ∧ flipB B c < 256 := by
  have := flip_fin2 B ⟨c.toNat, by omega⟩
  simpa [show ((c.toNat : Nat) : Int) = c by omega] using this
theorem flip_list (B : Bool) {l : List Int} (h : Bys l) : (l.map (flipB B)).map (flipB B) = l ∧ Bys (l.map (flipB B)) := by
  constructor
  · rw [List.map_map]
    have : ∀ c ∈ l, (flipB B ∘ flipB B) c = id c := fun c hc => (flip_two B (h c hc)).1
    rw [List.map_congr_left this, List.map_id]
  · intro c hc
    obtain ⟨d, hd, rfl⟩ := List.mem_map.1 hc
    exact (flip_two B (h d hd)).2
theorem be_eight : ∀ L : List Int, L.length = 8 → Bys L → ∃ N : Nat, N < 18446744073709551616 ∧ eightU N = L
  | [c0, c1, c2, c3, c4, c5, c6, c7], _, h => by
    obtain ⟨a0, ⟨a1, a2⟩, ⟨a3, a4⟩, ⟨a5, a6⟩, ⟨a7, a8⟩, ⟨a9, b0⟩, ⟨b1, b2⟩, ⟨b3, b4⟩⟩ : (0 ≤ c0 ∧ c0 < 256) ∧ (0 ≤ c1 ∧ c1 < 256) ∧ (0 ≤ c2 ∧ c2 < 256) ∧ (0 ≤ c3 ∧ c3 < 256) ∧ (0 ≤ c4 ∧ c4 < 256) ∧ (0 ≤ c5 ∧ c5 < 256) ∧ (0 ≤ c6 ∧ c6 < 256) ∧ (0 ≤ c7 ∧ c7 < 256) := by
      refine ⟨h _ ?_, h _ ?_, h _ ?_, h _ ?_, h _ ?_, h _ ?_, h _ ?_, h _ ?_⟩ <;> simp
    refine ⟨((((((((c0 * 256 + c1) * 256 + c2) * 256 + c3) * 256 + c4) * 256 + c5) * 256 + c6) * 256 + c7)).toNat, by omega, ?_⟩
    unfold eightU
    simp only [List.range, List.range.loop, List.map_cons, List.map_nil, List.cons.injEq, and_true]
    refine ⟨?_, ?_, ?_, ?_, ?_, ?_, ?_, ?_⟩ <;> (simp only [Nat.reduceMul, Nat.reduceSub, Nat.reducePow]; omega)
theorem eight_pre (L : List Int) (hl : L.length < 8) (h : Bys L) : ∃ N : Nat, N < 18446744073709551616 ∧ (eightU N).take L.length = L := by
  obtain ⟨N, h1, h2⟩ := be_eight (L ++ List.replicate (8 - L.length) 0) (by simp; omega) (fun c hc => by
    rcases List.mem_append.1 hc with hc | hc
    · exact h c hc
    · rw [(List.mem_replicate.1 hc).2]; omega)
  exact ⟨N, h1, by rw [h2, List.take_left]⟩
theorem turn_back {N : Nat} (h : N < 18446744073709551616) : turnU (backU N) = N := by
  unfold turnU backU
  split <;> split <;> omega
theorem txB_ex {L : List Int} (h : Bys L) : ∃ s : ByteArray, txB s = L ∧ s.size = L.length := by
  refine ⟨⟨(L.map fun c => UInt8.ofNat c.toNat).toArray⟩, ?_, by simp [ByteArray.size]⟩
  unfold txB
  rw [List.map_map]
  have : ∀ c ∈ L, ((fun c : UInt8 => ((c.toNat : Nat) : Int)) ∘ fun c : Int => UInt8.ofNat c.toNat) c = id c := fun c hc => by
    have := h c hc
    simp only [Function.comp, id]
    rw [UInt8.toNat_ofNat_of_lt' (show c.toNat < 256 by omega)]
    omega
  rw [List.map_congr_left this, List.map_id]
/-- How a text's bytes end. -/
def TailB (n : Nat) (tail : List Int) : Prop := tail = [] ∨ tail = [0] ∨ (∃ r, tail = 0 :: 1 :: r) ∨ (∃ d r, tail = 0 :: d :: r ∧ d ≠ 1 ∧ d ≠ 255) ∨ (n = 40 ∧ ((∃ c r, tail = c :: r ∧ c ≠ 0) ∨ ∃ r, tail = 0 :: 255 :: r))
theorem parse_text : ∀ (n : Nat) (L t : List Int), t.length ≤ n → L.length ≤ 40 → Bys L → Bys t → ∃ L' tail, esc L ++ t = esc L' ++ tail ∧ L'.length ≤ 40 ∧ Bys L' ∧ Bys tail ∧ TailB L'.length tail
  | n, L, [], _, h1, h2, h3 => ⟨L, [], rfl, h1, h2, h3, .inl rfl⟩
  | 0, L, c :: t, h, _, _, _ => by simp at h
  | n + 1, L, c :: t, h, h1, h2, h3 => by
    have h3' : Bys t := fun x hx => h3 x (List.mem_cons_of_mem _ hx)
    by_cases h0 : c = 0
    · subst h0
      cases t with
      | nil => exact ⟨L, [0], rfl, h1, h2, h3, .inr (.inl rfl)⟩
      | cons d r =>
        by_cases hd1 : d = 1
        · subst hd1; exact ⟨L, _, rfl, h1, h2, h3, .inr (.inr (.inl ⟨r, rfl⟩))⟩
        by_cases hd2 : d = 255
        · subst hd2
          by_cases hL : L.length = 40
          · exact ⟨L, _, rfl, h1, h2, h3, .inr (.inr (.inr (.inr ⟨hL, .inr ⟨r, rfl⟩⟩)))⟩
          · obtain ⟨L', tail, e, r1⟩ := parse_text n (L ++ [0]) r (by simp at h; omega) (by simp; omega) (fun x hx => by
              rcases List.mem_append.1 hx with hx | hx
              · exact h2 x hx
              · rw [List.mem_singleton.1 hx]; omega) (fun x hx => h3' x (List.mem_cons_of_mem _ hx))
            refine ⟨L', tail, ?_, r1⟩
            rw [← e, esc_append]
            simp [esc]
        · exact ⟨L, _, rfl, h1, h2, h3, .inr (.inr (.inr (.inl ⟨d, r, rfl, hd1, hd2⟩)))⟩
    · by_cases hL : L.length = 40
      · exact ⟨L, _, rfl, h1, h2, h3, .inr (.inr (.inr (.inr ⟨hL, .inl ⟨c, t, rfl, h0⟩⟩)))⟩
      · obtain ⟨L', tail, e, r1⟩ := parse_text n (L ++ [c]) t (by simp at h; omega) (by simp; omega) (fun x hx => by
          rcases List.mem_append.1 hx with hx | hx
          · exact h2 x hx
          · rw [List.mem_singleton.1 hx]; exact h3 c (by simp)) h3'
        refine ⟨L', tail, ?_, r1⟩
        rw [← e, esc_append]
        simp [esc, h0]
/-- Each bytes begin with a value, or are told to begin with none. -/
theorem read_any {b : List Int} {p : Nat} {B : Bool} (hb : b.length ≤ 9223372036854775807) (hp : p ≤ b.length) (h8 : Bys b) : (∃ v rest, Good v ∧ b.drop p = (oneP v).map (flipB B) ++ rest) ∨ ReadBad gT b p B := by
  obtain ⟨f1, f2⟩ := flip_list B (l := b.drop p) (fun c hc => h8 c (List.mem_of_mem_drop hc))
  have hlen : ((b.drop p).map (flipB B)).length = b.length - p := by rw [List.length_map, List.length_drop]
  generalize (b.drop p).map (flipB B) = s at f1 f2 hlen
  have f1 := f1.symm
  cases s with
  | nil => exact .inr ⟨4, p, by decide, read_cut0 hb (by simp at hlen; omega)⟩
  | cons c s =>
    have hc8 := f2 c (by simp)
    have hs8 : Bys s := fun x hx => f2 x (List.mem_cons_of_mem _ hx)
    rw [List.length_cons] at hlen
    by_cases e1 : c = 1
    · subst e1
      exact .inl ⟨_, s.map (flipB B), .null, by rw [f1]; rfl⟩
    by_cases e2 : c = 2
    · subst e2
      cases s with
      | nil => exact .inr ⟨4, p + 1, by decide, cut_bool (.inl rfl) b p 1 B hb (by decide) (by simp at hlen; omega) (by rw [f1]; rfl)⟩
      | cons d s =>
        by_cases d0 : d = 0
        · subst d0; exact .inl ⟨_, s.map (flipB B), .bool 0 (.inl rfl), by rw [f1]; rfl⟩
        by_cases d1 : d = 1
        · subst d1; exact .inl ⟨_, s.map (flipB B), .bool 1 (.inr rfl), by rw [f1]; rfl⟩
        exact .inr (bad_bool hb f1 (hs8 d (by simp)) d0 d1)
    by_cases e3 : c = 3
    · subst e3
      by_cases hl : s.length < 8
      · obtain ⟨N, hN, hT⟩ := eight_pre s hl hs8
        have ho : oneP ⟨2, (N : Int) - 9223372036854775808, 0, ⟨#[]⟩⟩ = 3 :: eightU N := by
          show 3 :: eightU ((N : Int) - 9223372036854775808 + 9223372036854775808).toNat = _
          rw [show ((N : Int) - 9223372036854775808 + 9223372036854775808).toNat = N by omega]
        refine .inr ⟨4, p + (s.length + 1), by decide, cut_int (n := (N : Int) - 9223372036854775808) (by omega) b p (s.length + 1) B hb ?_ (by omega) ?_⟩
        · rw [ho, List.length_cons, eightU_len]; omega
        · rw [ho, List.take_succ_cons, hT]; exact f1
      · obtain ⟨N, hN, hT⟩ := be_eight (s.take 8) (by rw [List.length_take]; omega) (fun x hx => hs8 x (List.mem_of_mem_take hx))
        have ho : oneP ⟨2, (N : Int) - 9223372036854775808, 0, ⟨#[]⟩⟩ = 3 :: eightU N := by
          show 3 :: eightU ((N : Int) - 9223372036854775808 + 9223372036854775808).toNat = _
          rw [show ((N : Int) - 9223372036854775808 + 9223372036854775808).toNat = N by omega]
        refine .inl ⟨_, (s.drop 8).map (flipB B), .int ((N : Int) - 9223372036854775808) (by omega), ?_⟩
        rw [ho, f1, hT, List.map_cons, List.map_cons, List.cons_append, ← List.map_append, List.take_append_drop]
    by_cases e4 : c = 4
    · subst e4
      by_cases hl : s.length < 8
      · obtain ⟨N, hN, hT⟩ := eight_pre s hl hs8
        have hbl : backU N < 18446744073709551616 := by unfold backU; split <;> omega
        have ho : oneP ⟨3, 0, (backU N : Int), ⟨#[]⟩⟩ = 4 :: eightU N := by
          show 4 :: eightU (turnU (backU N : Int).toNat) = _
          rw [Int.toNat_natCast, turn_back hN]
        refine .inr ⟨4, p + (s.length + 1), by decide, cut_real hbl b p (s.length + 1) B hb ?_ (by omega) ?_⟩
        · rw [ho, List.length_cons, eightU_len]; omega
        · rw [ho, List.take_succ_cons, hT]; exact f1
      · obtain ⟨N, hN, hT⟩ := be_eight (s.take 8) (by rw [List.length_take]; omega) (fun x hx => hs8 x (List.mem_of_mem_take hx))
        have ho : oneP ⟨3, 0, (backU N : Int), ⟨#[]⟩⟩ = 4 :: eightU N := by
          show 4 :: eightU (turnU (backU N : Int).toNat) = _
          rw [Int.toNat_natCast, turn_back hN]
        by_cases hf : FinW (backU N)
        · refine .inl ⟨_, (s.drop 8).map (flipB B), .real (backU N) hf, ?_⟩
          rw [ho, f1, hT, List.map_cons, List.map_cons, List.cons_append, ← List.map_append, List.take_append_drop]
        · exact .inr (bad_real (s := s.drop 8) hb (by rw [f1, hT, List.take_append_drop]) hN hf)
    by_cases e5 : c = 5
    · subst e5
      obtain ⟨L, tail, e, hL, hL8, ht8, ht⟩ := parse_text s.length [] s (Nat.le_refl _) (by simp) (fun x hx => by simp at hx) hs8
      obtain ⟨t, rfl, htz⟩ := txB_ex hL8
      have e : s = esc (txB t) ++ tail := e
      subst e
      have hts : t.size ≤ 40 := by omega
      have ho : oneP ⟨4, 0, 0, t⟩ = 5 :: (esc (txB t) ++ [0, 1]) := rfl
      rcases ht with rfl | rfl | ⟨r, rfl⟩ | ⟨d, r, rfl, d1, d2⟩ | ⟨h40, ⟨d, r, rfl, d1⟩ | ⟨r, rfl⟩⟩
      · rw [List.append_nil] at f1 hlen
        refine .inr ⟨4, p + ((esc (txB t)).length + 1), by decide, cut_text hts b p ((esc (txB t)).length + 1) B hb (by rw [ho]; simp) (by omega) ?_⟩
        rw [ho, List.take_succ_cons, List.take_left]; exact f1
      · refine .inr ⟨4, p + ((esc (txB t)).length + 1 + 1), by decide, cut_text hts b p ((esc (txB t)).length + 1 + 1) B hb (by rw [ho]; simp) (by rw [List.length_append] at hlen; simp at hlen; omega) ?_⟩
        rw [ho, List.take_succ_cons, List.take_append, List.take_of_length_le (by omega), show (esc (txB t)).length + 1 - (esc (txB t)).length = 1 by omega]
        exact f1
      · cases hv : validD t.data.toList with
        | true =>
          refine .inl ⟨_, r.map (flipB B), .text t hts hv, ?_⟩
          rw [ho, f1, ← List.map_append]
          simp
        | false => exact .inr (bad_text (by decide) hb f1 (text_valid hts hv hb f1))
      · exact .inr (bad_text (by decide) hb f1 (text_form hts (ht8 d (by simp)) d1 d2 hb f1))
      · exact .inr (bad_text (by decide) hb f1 (text_size (by omega) (ht8 d (by simp)) d1 hb f1))
      · exact .inr (bad_text (by decide) hb f1 (text_size0 (by omega) hb f1))
    · exact .inr (bad_kind hb f1 hc8 (by omega))
/-- Each bytes are a row, or are told to be none. -/
theorem decode_any {b : List Int} {k : Nat} (hk : k ≤ 5) (hb : b.length ≤ 9223372036854775807) (h8 : Bys b) (down : Int) :
    (∃ vs : List Vl, vs.length = k ∧ (∀ v ∈ vs, Good v) ∧ b = encP down 0 vs) ∨ ∃ e : Int, e ≠ 0 ∧ FnC (En Tryd.prog gT) 21 [.pv (byv b), .pv (.int .i64 k), .pv (.int .i64 down)] (.tup [.pv .nil, .pv (.int .i64 e)]) [] := by
  have main : ∀ j, j ≤ k → (∃ vs : List Vl, vs.length = j ∧ (∀ v ∈ vs, Good v) ∧ ∃ rest, b = encP down 0 vs ++ rest) ∨ ∃ e : Int, e ≠ 0 ∧ FnC (En Tryd.prog gT) 21 [.pv (byv b), .pv (.int .i64 k), .pv (.int .i64 down)] (.tup [.pv .nil, .pv (.int .i64 e)]) [] := by
    intro j
    induction j with
    | zero => exact fun _ => .inl ⟨[], rfl, fun v hv => by simp at hv, b, rfl⟩
    | succ j ih =>
      intro hj
      rcases ih (by omega) with ⟨vs, hvl, hg, rest, hbe⟩ | h
      · have hd : b.drop (encP down 0 vs).length = rest := by rw [hbe, List.drop_left]
        rcases read_any (B := dnB down vs.length) hb (p := (encP down 0 vs).length) (by rw [hbe, List.length_append]; omega) h8 with ⟨v, rest', hv, he⟩ | hbad
        · refine .inl ⟨vs ++ [v], by simp [hvl], fun w hw => ?_, rest', ?_⟩
          · rcases List.mem_append.1 hw with hw | hw
            · exact hg w hw
            · rw [List.mem_singleton.1 hw]; exact hv
          · rw [hd] at he
            rw [encP_append, Nat.zero_add, hbe, he]
            simp [encP]
        · exact .inr (fnDecodeBad hk (by omega) (fun v hv => read_good (hg v hv)) down hb hbe hbad)
      · exact .inr h
  rcases main k (Nat.le_refl _) with ⟨vs, hvl, hg, rest, hbe⟩ | h
  · cases rest with
    | nil => exact .inl ⟨vs, hvl, hg, by rw [hbe, List.append_nil]⟩
    | cons z zs =>
      refine .inr ⟨3, by decide, ?_⟩
      have := fnDecodeMoreG (more := z :: zs) (by simp) (by omega) hg (fun v hv => read_good (hg v hv)) down (by rw [← hbe]; exact hb)
      rw [← hbe, hvl] at this
      exact this
  · exact .inr h
end Go.Proofs.YtalcpfpjkfpmbaaDoor.Vm
