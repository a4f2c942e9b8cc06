/- CodeOrder: its walk. Conditions: none beyond the tables of utf8. -/
import Derived.Test.YtokjeodlcilfpaaDoorCodeX
import Derived.Test.YtokjeodlcilfpaaDoorCodeJoinsW
namespace Go.Proofs.YtokjeodlcilfpaaDoor.Vm
open Go Go.RowKit Go.Lib
set_option linter.unusedVariables false
set_option linter.unusedSimpArgs false
section
variable {E : Env} {n : Nat} {tm : List (Nat × AV)} {bx : List (Nat × Box)} {ops : Array Oper} {l : List Oper} {d : Tmp} {ty : TypeId} {pos : String} {after : Array Edge}
theorem O.strLtV {Θ : St → Prop} {t t' : TypeId} {y z : Operand} {s s' : ByteArray} {c : Bool} (hy : evO E tm y = some (.pv (.str s))) (hz : evO E tm z = some (.pv (.str s'))) (hc : Op.bytesLess s.toList s'.toList = c) (hd : Nat.blt d n = true) (h : Ops E.P E.g ops l ⟨n, (d, .pv (.bool c)) :: tm, bx⟩ Θ) :
    Ops E.P E.g ops (⟨some d, .binOp .lss t y z t', ty, pos, after, none⟩ :: l) ⟨n, tm, bx⟩ Θ := by
  subst hc
  exact O.bin (v := .bool (Op.bytesLess s.toList s'.toList)) hy hz rfl rfl rfl rfl hd h
end
theorem esc_bytes : ∀ x : List Int, (∀ c ∈ x, 0 ≤ c ∧ c < 256) → ∀ c ∈ esc x, 0 ≤ c ∧ c < 256
  | [], _, c, hc => by simp [esc] at hc
  | a :: x, h, c, hc => by
    have ha := h a (by simp)
    have ih := esc_bytes x (fun c hc => h c (List.mem_cons_of_mem _ hc))
    simp only [esc] at hc
    split at hc
    · simp only [List.mem_cons] at hc
      rcases hc with rfl | rfl | hc
      · omega
      · omega
      · exact ih c hc
    · simp only [List.mem_cons] at hc
      rcases hc with rfl | hc
      · exact ha
      · exact ih c hc
theorem eight_bytes (N : Nat) : ∀ c ∈ eightU N, 0 ≤ c ∧ c < 256 := fun c hc => by
  unfold eightU at hc
  obtain ⟨i, _, rfl⟩ := List.mem_map.1 hc
  have : N / 2 ^ (56 - 8 * i) % 256 < 256 := Nat.mod_lt _ (by decide)
  omega
theorem one_bytes {v : Vl} (h : Good v) : ∀ c ∈ oneP v, 0 ≤ c ∧ c < 256 := by
  cases h with
  | null => intro c hc; rw [show oneP ⟨0, 0, 0, ⟨#[]⟩⟩ = [1] from rfl] at hc; simp at hc; omega
  | bool n hn =>
    intro c hc
    rw [show oneP ⟨1, n, 0, ⟨#[]⟩⟩ = [2, IntKind.u8.wrap n] from rfl] at hc
    have en : IntKind.u8.wrap n = n := by rcases hn with rfl | rfl <;> rfl
    rw [en] at hc
    simp at hc
    omega
  | int n hn =>
    intro c hc
    rw [show oneP ⟨2, n, 0, ⟨#[]⟩⟩ = 3 :: eightU (n + 9223372036854775808).toNat from rfl] at hc
    rcases List.mem_cons.1 hc with rfl | hc
    · omega
    · exact eight_bytes _ c hc
  | real n hn =>
    intro c hc
    rw [show oneP ⟨3, 0, (n : Int), ⟨#[]⟩⟩ = 4 :: eightU (turnU (n : Int).toNat) from rfl] at hc
    rcases List.mem_cons.1 hc with rfl | hc
    · omega
    · exact eight_bytes _ c hc
  | text s hs hv =>
    intro c hc
    rw [show oneP ⟨4, 0, 0, s⟩ = 5 :: (esc (txB s) ++ [0, 1]) from rfl] at hc
    rcases List.mem_cons.1 hc with rfl | hc
    · omega
    · rcases List.mem_append.1 hc with hc | hc
      · exact esc_bytes _ (txB_byte s) c hc
      · simp at hc; omega
theorem flip_byte (B : Bool) {c : Int} (h : 0 ≤ c ∧ c < 256) : 0 ≤ flipB B c ∧ flipB B c < 256 := by
  cases B with
  | false => exact h
  | true => rw [show flipB true c = notI .u8 c from rfl, notI_u8 h]; omega
theorem enc_bytes {down : Int} : ∀ (i : Nat) (vs : List Vl), (∀ v ∈ vs, Good v) → ∀ c ∈ encP down i vs, 0 ≤ c ∧ c < 256
  | i, [], _, c, hc => by simp [encP] at hc
  | i, v :: vs, h, c, hc => by
    rw [encP] at hc
    rcases List.mem_append.1 hc with hc | hc
    · obtain ⟨e, he, rfl⟩ := List.mem_map.1 hc
      exact flip_byte _ (one_bytes (h v (by simp)) e he)
    · exact enc_bytes (i + 1) vs (fun w hw => h w (List.mem_cons_of_mem _ hw)) c hc
theorem enc_pos {down : Int} {vs : List Vl} (h0 : vs.length ≠ 0) (h : ∀ v ∈ vs, Good v) : 0 < (encP down 0 vs).length := by
  cases vs with
  | nil => simp at h0
  | cons v vs =>
    obtain ⟨r, e, _⟩ := one_head (h v (by simp))
    rw [encP, e]
    simp
theorem str_back {x : List Int} (h : ∀ c ∈ x, 0 ≤ c ∧ c < 256) : (strOfNums x).toList.map (fun c => ((c.toNat : Nat) : Int)) = x := by
  rw [ByteArray.toList_eq]
  simp only [strOfNums, List.map_map]
  have : ∀ c ∈ x, ((fun c : UInt8 => ((c.toNat : Nat) : Int)) ∘ fun n : Int => UInt8.ofNat n.toNat) c = id c := fun c hc => by
    have := h c hc
    simp only [Function.comp, id]
    rw [UInt8.toNat_ofNat_of_lt' (show c.toNat < 256 by omega)]
    omega
  rw [List.map_congr_left this, List.map_id]
theorem str_less {x y : List Int} (hx : ∀ c ∈ x, 0 ≤ c ∧ c < 256) (hy : ∀ c ∈ y, 0 ≤ c ∧ c < 256) : Op.bytesLess (strOfNums x).toList (strOfNums y).toList = decide (lexc x y < 0) := by
  rw [lexl_eq, str_back hx, str_back hy, lexl_lexc]
theorem str_same {x y : List Int} (hx : ∀ c ∈ x, 0 ≤ c ∧ c < 256) (hy : ∀ c ∈ y, 0 ≤ c ∧ c < 256) : ((strOfNums x).toList == (strOfNums y).toList) = decide (lexc x y = 0) := by
  rw [bytes_eq, str_back hx, str_back hy]
  exact decide_eq_decide.2 (lexc_zero x y).symm
theorem ord_three (v w : Vl) : ordV v w = -1 ∨ ordV v w = 0 ∨ ordV v w = 1 := by
  unfold ordV
  split
  · exact .inl rfl
  · split
    · exact .inr (.inr rfl)
    · exact .inr (.inl rfl)
attribute [local irreducible] Ops Dr Run eightU esc turnU oneP encP ordV cUp
theorem fnCodeOrder {rs ms : List Rw} (al down : Int) (hl : (rs.length : Int) ≤ 9223372036854775807) (hr : ∀ r ∈ rs, RwOk r) (hl' : (ms.length : Int) ≤ 9223372036854775807) (hr' : ∀ r ∈ ms, RwOk r) :
    FnC (En Tryd.prog gT) 11 [.pv (.lst 4 (rs.map rawE)), .pv (.lst 4 (ms.map rawE)), .pv (.int .i64 al), .pv (.int .i64 down)] (.pv (.bool true)) [] := by
  have hE := EnOk gT
  obtain ⟨us, ws, hul, hlen, hug, hwg, c1⟩ := pair_ex (g := gT) al hl hr hl' hr'
  have c2 := fnEncode vstr hul hug down
  have c3 := fnEncode vstr (by omega) hwg down
  have c6 := fnCodeTells vstr
  have hum : (((us.map vlE).length : Nat) : Int) = us.length := by simp
  have hX := enc_bytes (down := down) 0 us hug
  have hY := enc_bytes (down := down) 0 ws hwg
  have hlx := lexc_enc (down := down) hlen hug hwg
  have hpos := fun h => enc_pos (down := down) (vs := us) h hug
  have s1 := str_less hX hY
  have s2 := str_same hX hY
  rw [hlx] at s1 s2
  clear hlx hX hY
  generalize encP down 0 us = X at *
  generalize encP down 0 ws = Y at *
  have hXm : (((X.map (PV.int .u8)).length : Nat) : Int) = X.length := by simp
  refine FnC.of Tryd.func11 rfl rfl rfl rfl ?_
  repeat (first | refine Run.seq ?_ | refine Run.skip ?_ | refine Run.block ?_)
  refine Run.region ?_
  refine O.assign rfl rfl ?_
  refine O.nil ?_
  try refine Run.keep [0, 1, 2, 3, 8, 9, 10, 11, 12, 13, 14, 15, 16, 17, 18, 39, 40, 41, 56, 58, 64] rfl rfl ?_
  repeat (first | refine Run.seq ?_ | refine Run.skip ?_ | refine Run.block ?_)
  refine Run.region ?_
  refine O.move rfl rfl ?_
  refine O.move rfl rfl ?_
  refine O.move rfl rfl ?_
  refine O.callE c1 rfl (by first | rfl | simp [closed, men3, mens2_app, mens2_ints, mens2, men2, men1, mens1_app, mens1_ints, mens1]) (by first | rfl | simp [d2, ds1_ints, ds1_app, ds1, d1, ds0_app, ds0_ints, ds0, d0]) rfl ?_
  refine O.move rfl rfl ?_
  refine O.extract rfl rfl rfl ?_
  refine O.extract rfl rfl rfl ?_
  refine O.assign rfl rfl ?_
  refine O.assign rfl rfl ?_
  refine O.nil ?_
  try refine Run.keep [0, 1, 2, 3, 8, 9, 10, 11, 12, 13, 14, 15, 16, 17, 18, 39, 40, 41, 56, 58, 64] rfl rfl ?_
  repeat (first | refine Run.seq ?_ | refine Run.skip ?_ | refine Run.block ?_)
  refine Run.region ?_
  refine O.move rfl rfl ?_
  refine O.move rfl rfl ?_
  refine O.callE c2 rfl (by first | rfl | simp [closed, men3, mens2_app, mens2_ints, mens2, men2, men1, mens1_app, mens1_ints, mens1]) (by first | rfl | simp [d2, ds1_ints, ds1_app, ds1, d1, ds0_app, ds0_ints, ds0, d0]) rfl ?_
  refine O.move rfl rfl ?_
  refine O.extract rfl rfl rfl ?_
  refine O.extract rfl rfl rfl ?_
  refine O.assign rfl rfl ?_
  refine O.assign rfl rfl ?_
  refine O.nil ?_
  try refine Run.keep [0, 1, 2, 3, 8, 9, 10, 11, 12, 13, 14, 15, 16, 17, 18, 39, 40, 41, 56, 58, 64] rfl rfl ?_
  repeat (first | refine Run.seq ?_ | refine Run.skip ?_ | refine Run.block ?_)
  refine Run.region ?_
  refine O.move rfl rfl ?_
  refine O.move rfl rfl ?_
  refine O.callE c3 rfl (by first | rfl | simp [closed, men3, mens2_app, mens2_ints, mens2, men2, men1, mens1_app, mens1_ints, mens1]) (by first | rfl | simp [d2, ds1_ints, ds1_app, ds1, d1, ds0_app, ds0_ints, ds0, d0]) rfl ?_
  refine O.move rfl rfl ?_
  refine O.extract rfl rfl rfl ?_
  refine O.extract rfl rfl rfl ?_
  refine O.assign rfl rfl ?_
  refine O.assign rfl rfl ?_
  refine O.nil ?_
  try refine Run.keep [0, 1, 2, 3, 8, 9, 10, 11, 12, 13, 14, 15, 16, 17, 18, 39, 40, 41, 56, 58, 64] rfl rfl ?_
  repeat (first | refine Run.seq ?_ | refine Run.skip ?_ | refine Run.block ?_)
  refine Run.region ?_
  refine O.assign rfl rfl ?_
  refine O.nil ?_
  try refine Run.keep [0, 1, 2, 3, 8, 9, 10, 11, 12, 13, 14, 15, 16, 17, 18, 39, 40, 41, 56, 58, 64] rfl rfl ?_
  repeat (first | refine Run.seq ?_ | refine Run.skip ?_ | refine Run.block ?_)
  refine Run.region ?_
  refine O.move rfl rfl ?_
  refine O.lenN hE T53 rfl rfl rfl newest_pv hum rfl ?_
  refine O.move rfl rfl ?_
  refine O.nil ?_
  try refine Run.keep [0, 1, 2, 3, 8, 9, 10, 11, 12, 13, 14, 15, 16, 17, 18, 39, 40, 41, 56, 58, 64] rfl rfl ?_
  repeat (first | refine Run.seq ?_ | refine Run.skip ?_)
  refine Run.block ?_
  refine Run.loopInv (ι := Nat) (fun j => j ≤ us.length) (fun j => ⟨107, [(3, .pv (.int .i64 down)), (9, .pv (.lst 4 (us.map vlE))), (10, .pv (.lst 4 (ws.map vlE))), (11, .pv (byv X)), (12, .pv (.int .i64 0)), (13, .pv (byv Y)), (14, .pv (.int .i64 0)), (15, .pv (.int .i64 (cUp down us ws j))), (39, .pv (.int .i64 us.length)), (40, .pv (.int .i64 (j : Int)))], []⟩) (fun j => us.length - j) 0 (Nat.zero_le _) ?_ ?_
  ·
    rw [show cUp down us ws 0 = 0 by unfold cUp; rfl]
    refine SLe.eqv (by repeat (first | exact TmIn.nil | refine TmIn.cons rfl ?_)) (by repeat (first | exact BxIn.nil | refine BxIn.cons rfl ?_)) rfl
  rintro j hj ih
  by_cases hlt : j < us.length
  ·
    obtain ⟨v, hv⟩ : ∃ v, us[j]? = some v := ⟨_, List.getElem?_eq_getElem hlt⟩
    obtain ⟨w, hw⟩ : ∃ w, ws[j]? = some w := ⟨_, List.getElem?_eq_getElem (by omega)⟩
    have hat1 : (us.map vlE)[(j : Int).toNat]? = some (vlE v) := by rw [Int.toNat_natCast, List.getElem?_map, hv]; rfl
    have hat2 : (ws.map vlE)[(j : Int).toNat]? = some (vlE w) := by rw [Int.toNat_natCast, List.getElem?_map, hw]; rfl
    have c4 := fnCompareV vstr (hug v (List.mem_of_getElem? hv)) (hwg w (List.mem_of_getElem? hw))
    have h3 := ord_three v w
    have hstep : cUp down us ws (j + 1) = if cUp down us ws j = 0 then (if dnB down j then -(ordV v w) else ordV v w) else cUp down us ws j := by
      conv => lhs; unfold cUp
      rw [hv, hw]
    obtain ⟨z, hz⟩ : ∃ z, ordV v w = z := ⟨_, rfl⟩
    rw [hz] at c4 h3 hstep
    have hneg : IntKind.i64.wrap (0 - z) = -z := by rw [wrap_i64 (by omega) (by omega)]; omega
    obtain ⟨B, hB⟩ : ∃ B, dnB down j = B := ⟨_, rfl⟩
    rw [hB] at hstep
    clear hz
    obtain ⟨k, m, bt, t⟩ := v
    obtain ⟨k', m', bt', t'⟩ := w
    dsimp only [vlA] at c4
    by_cases hc : cUp down us ws j = 0
    ·
      rw [if_pos hc] at hstep
      rw [hc]
      repeat (first | refine Run.seq ?_ | refine Run.skip ?_ | refine Run.block ?_)
      refine Run.region ?_
      first | refine O.cmp rfl rfl rfl (by first | exact decide_eq_true (by omega) | exact decide_eq_false (by omega)) rfl ?_ | refine O.cmp rfl rfl rfl rfl rfl ?_
      refine O.nil ?_
      try refine Run.keep [0, 1, 2, 3, 8, 9, 10, 11, 12, 13, 14, 15, 16, 17, 18, 39, 40, 41, 56, 58, 64] rfl rfl ?_
      repeat (first | refine Run.seq ?_ | refine Run.skip ?_)
      first | refine Run.condT rfl rfl ?_ | refine Run.condF rfl rfl ?_ | refine Run.condT rfl (by assumption) ?_ | refine Run.condF rfl (by assumption) ?_
      repeat (first | refine Run.seq ?_ | refine Run.skip ?_ | refine Run.block ?_)
      refine Run.region ?_
      refine O.move rfl rfl ?_
      refine O.assign rfl rfl ?_
      refine O.nil ?_
      try refine Run.keep [0, 1, 2, 3, 8, 9, 10, 11, 12, 13, 14, 15, 16, 17, 18, 39, 40, 41, 56, 58, 64] rfl rfl ?_
      repeat (first | refine Run.seq ?_ | refine Run.skip ?_ | refine Run.block ?_)
      refine Run.draw mixed rfl ?_
      refine D.move rfl rfl ?_
      refine D.move rfl rfl ?_
      refine D.index hE T53 rfl T69 rfl rfl newest_pv rfl (by omega) hat1 rfl rfl rfl ?_
      refine D.load hE T69 rfl rfl rfl rfl ?_
      refine D.move rfl rfl ?_
      refine D.move rfl rfl ?_
      refine D.index hE T53 rfl T69 rfl rfl newest_pv rfl (by omega) hat2 rfl rfl rfl ?_
      refine D.load hE T69 rfl rfl rfl rfl ?_
      refine D.callE c4 rfl (by first | rfl | simp [closed, men3, mens2_app, mens2_ints, mens2, men2, men1, mens1_app, mens1_ints, mens1]) (by first | rfl | simp [d2, ds1_ints, ds1_app, ds1, d1, ds0_app, ds0_ints, ds0, d0]) rfl ?_
      refine D.move rfl rfl ?_
      refine D.extract rfl rfl rfl ?_
      refine D.extract rfl rfl rfl ?_
      refine D.assign rfl rfl ?_
      refine D.assign rfl rfl ?_
      refine Dr.nil ?_
      refine ⟨rfl, ?_⟩
      try refine Run.keep [0, 1, 2, 3, 8, 9, 10, 11, 12, 13, 14, 15, 16, 17, 18, 39, 40, 41, 56, 58, 64] rfl rfl ?_
      repeat (first | refine Run.seq ?_ | refine Run.skip ?_ | refine Run.block ?_)
      refine Run.region ?_
      refine O.move rfl rfl ?_
      first | refine O.cmp rfl rfl rfl (by first | exact decide_eq_true (by omega) | exact decide_eq_false (by omega)) rfl ?_ | refine O.cmp rfl rfl rfl rfl rfl ?_
      refine O.nil ?_
      try refine Run.keep [0, 1, 2, 3, 8, 9, 10, 11, 12, 13, 14, 15, 16, 17, 18, 39, 40, 41, 56, 58, 64] rfl rfl ?_
      repeat (first | refine Run.seq ?_ | refine Run.skip ?_)
      first | refine Run.condT rfl rfl ?_ | refine Run.condF rfl rfl ?_ | refine Run.condT rfl (by assumption) ?_ | refine Run.condF rfl (by assumption) ?_
      repeat (first | refine Run.seq ?_ | refine Run.skip ?_ | refine Run.block ?_)
      refine Run.region ?_
      refine O.move rfl rfl ?_
      first | refine O.cmp rfl rfl rfl (by first | exact decide_eq_true (by omega) | exact decide_eq_false (by omega)) rfl ?_ | refine O.cmp rfl rfl rfl rfl rfl ?_
      refine O.nil ?_
      try refine Run.keep [0, 1, 2, 3, 8, 9, 10, 11, 12, 13, 14, 15, 16, 17, 18, 39, 40, 41, 56, 58, 64] rfl rfl ?_
      repeat (first | refine Run.seq ?_ | refine Run.skip ?_)
      first | refine Run.condT rfl rfl ?_ | refine Run.condF rfl rfl ?_ | refine Run.condT rfl (by assumption) ?_ | refine Run.condF rfl (by assumption) ?_
      repeat (first | refine Run.seq ?_ | refine Run.skip ?_ | refine Run.block ?_)
      refine Run.region ?_
      refine O.move rfl rfl ?_
      refine O.assign rfl rfl ?_
      refine O.nil ?_
      try refine Run.keep [0, 1, 2, 3, 8, 9, 10, 11, 12, 13, 14, 15, 16, 17, 18, 39, 40, 41, 56, 58, 64] rfl rfl ?_
      repeat (first | refine Run.seq ?_ | refine Run.skip ?_ | refine Run.block ?_)
      refine Run.region ?_
      refine O.move rfl rfl ?_
      refine O.move rfl rfl ?_
      refine O.shr rfl rfl (by first | omega | (exact wrap_nn rfl _)) rfl ?_
      refine O.bit rfl rfl rfl rfl ?_
      refine O.cmp (c' := B) rfl rfl rfl hB rfl ?_
      refine O.nil ?_
      try refine Run.keep [0, 1, 2, 3, 8, 9, 10, 11, 12, 13, 14, 15, 16, 17, 18, 39, 40, 41, 56, 58, 64] rfl rfl ?_
      cases B with
      | true =>
        rw [if_pos rfl] at hstep
        repeat (first | refine Run.seq ?_ | refine Run.skip ?_)
        first | refine Run.condT rfl rfl ?_ | refine Run.condF rfl rfl ?_ | refine Run.condT rfl (by assumption) ?_ | refine Run.condF rfl (by assumption) ?_
        repeat (first | refine Run.seq ?_ | refine Run.skip ?_ | refine Run.block ?_)
        refine Run.region ?_
        refine O.move rfl rfl ?_
        refine O.un (u := .int .i64 z) (v := .int .i64 (-z)) rfl rfl (by rw [← hneg]; rfl) rfl rfl ?_
        refine O.assign rfl rfl ?_
        refine O.nil ?_
        try refine Run.keep [0, 1, 2, 3, 8, 9, 10, 11, 12, 13, 14, 15, 16, 17, 18, 39, 40, 41, 56, 58, 64] rfl rfl ?_
        repeat (first | refine Run.seq ?_ | refine Run.skip ?_ | refine Run.block ?_)
        refine Run.region ?_
        first | refine O.ar rfl rfl rfl (by exact wrap_i64 (by omega) (by omega)) rfl ?_ | refine O.ar rfl rfl rfl rfl rfl ?_
        refine O.move rfl rfl ?_
        refine O.nil ?_
        try refine Run.keep [0, 1, 2, 3, 8, 9, 10, 11, 12, 13, 14, 15, 16, 17, 18, 39, 40, 41, 56, 58, 64] rfl rfl ?_
        refine ih (j + 1) _ ?_ (by omega) (by omega)
        rw [hstep]
        refine SLe.eqv (by repeat (first | exact TmIn.nil | refine TmIn.cons rfl ?_)) (by repeat (first | exact BxIn.nil | refine BxIn.cons rfl ?_)) rfl
      | false =>
        rw [if_neg (by decide)] at hstep
        repeat (first | refine Run.seq ?_ | refine Run.skip ?_)
        first | refine Run.condT rfl rfl ?_ | refine Run.condF rfl rfl ?_ | refine Run.condT rfl (by assumption) ?_ | refine Run.condF rfl (by assumption) ?_
        repeat (first | refine Run.seq ?_ | refine Run.skip ?_ | refine Run.block ?_)
        refine Run.region ?_
        first | refine O.ar rfl rfl rfl (by exact wrap_i64 (by omega) (by omega)) rfl ?_ | refine O.ar rfl rfl rfl rfl rfl ?_
        refine O.move rfl rfl ?_
        refine O.nil ?_
        try refine Run.keep [0, 1, 2, 3, 8, 9, 10, 11, 12, 13, 14, 15, 16, 17, 18, 39, 40, 41, 56, 58, 64] rfl rfl ?_
        refine ih (j + 1) _ ?_ (by omega) (by omega)
        rw [hstep]
        refine SLe.eqv (by repeat (first | exact TmIn.nil | refine TmIn.cons rfl ?_)) (by repeat (first | exact BxIn.nil | refine BxIn.cons rfl ?_)) rfl
    ·
      rw [if_neg hc] at hstep
      repeat (first | refine Run.seq ?_ | refine Run.skip ?_ | refine Run.block ?_)
      refine Run.region ?_
      first | refine O.cmp rfl rfl rfl (by first | exact decide_eq_true (by omega) | exact decide_eq_false (by omega)) rfl ?_ | refine O.cmp rfl rfl rfl rfl rfl ?_
      refine O.nil ?_
      try refine Run.keep [0, 1, 2, 3, 8, 9, 10, 11, 12, 13, 14, 15, 16, 17, 18, 39, 40, 41, 56, 58, 64] rfl rfl ?_
      repeat (first | refine Run.seq ?_ | refine Run.skip ?_)
      first | refine Run.condT rfl rfl ?_ | refine Run.condF rfl rfl ?_ | refine Run.condT rfl (by assumption) ?_ | refine Run.condF rfl (by assumption) ?_
      repeat (first | refine Run.seq ?_ | refine Run.skip ?_ | refine Run.block ?_)
      refine Run.region ?_
      refine O.move rfl rfl ?_
      refine O.assign rfl rfl ?_
      refine O.nil ?_
      try refine Run.keep [0, 1, 2, 3, 8, 9, 10, 11, 12, 13, 14, 15, 16, 17, 18, 39, 40, 41, 56, 58, 64] rfl rfl ?_
      repeat (first | refine Run.seq ?_ | refine Run.skip ?_ | refine Run.block ?_)
      refine Run.draw mixed rfl ?_
      refine D.move rfl rfl ?_
      refine D.move rfl rfl ?_
      refine D.index hE T53 rfl T69 rfl rfl newest_pv rfl (by omega) hat1 rfl rfl rfl ?_
      refine D.load hE T69 rfl rfl rfl rfl ?_
      refine D.move rfl rfl ?_
      refine D.move rfl rfl ?_
      refine D.index hE T53 rfl T69 rfl rfl newest_pv rfl (by omega) hat2 rfl rfl rfl ?_
      refine D.load hE T69 rfl rfl rfl rfl ?_
      refine D.callE c4 rfl (by first | rfl | simp [closed, men3, mens2_app, mens2_ints, mens2, men2, men1, mens1_app, mens1_ints, mens1]) (by first | rfl | simp [d2, ds1_ints, ds1_app, ds1, d1, ds0_app, ds0_ints, ds0, d0]) rfl ?_
      refine D.move rfl rfl ?_
      refine D.extract rfl rfl rfl ?_
      refine D.extract rfl rfl rfl ?_
      refine D.assign rfl rfl ?_
      refine D.assign rfl rfl ?_
      refine Dr.nil ?_
      refine ⟨rfl, ?_⟩
      try refine Run.keep [0, 1, 2, 3, 8, 9, 10, 11, 12, 13, 14, 15, 16, 17, 18, 39, 40, 41, 56, 58, 64] rfl rfl ?_
      repeat (first | refine Run.seq ?_ | refine Run.skip ?_ | refine Run.block ?_)
      refine Run.region ?_
      refine O.move rfl rfl ?_
      first | refine O.cmp rfl rfl rfl (by first | exact decide_eq_true (by omega) | exact decide_eq_false (by omega)) rfl ?_ | refine O.cmp rfl rfl rfl rfl rfl ?_
      refine O.nil ?_
      try refine Run.keep [0, 1, 2, 3, 8, 9, 10, 11, 12, 13, 14, 15, 16, 17, 18, 39, 40, 41, 56, 58, 64] rfl rfl ?_
      repeat (first | refine Run.seq ?_ | refine Run.skip ?_)
      first | refine Run.condT rfl rfl ?_ | refine Run.condF rfl rfl ?_ | refine Run.condT rfl (by assumption) ?_ | refine Run.condF rfl (by assumption) ?_
      repeat (first | refine Run.seq ?_ | refine Run.skip ?_ | refine Run.block ?_)
      refine Run.region ?_
      refine O.move rfl rfl ?_
      refine O.cmp (c' := false) rfl rfl rfl (by simpa using hc) rfl ?_
      refine O.nil ?_
      try refine Run.keep [0, 1, 2, 3, 8, 9, 10, 11, 12, 13, 14, 15, 16, 17, 18, 39, 40, 41, 56, 58, 64] rfl rfl ?_
      repeat (first | refine Run.seq ?_ | refine Run.skip ?_)
      first | refine Run.condT rfl rfl ?_ | refine Run.condF rfl rfl ?_ | refine Run.condT rfl (by assumption) ?_ | refine Run.condF rfl (by assumption) ?_
      repeat (first | refine Run.seq ?_ | refine Run.skip ?_ | refine Run.block ?_)
      refine Run.region ?_
      first | refine O.ar rfl rfl rfl (by exact wrap_i64 (by omega) (by omega)) rfl ?_ | refine O.ar rfl rfl rfl rfl rfl ?_
      refine O.move rfl rfl ?_
      refine O.nil ?_
      try refine Run.keep [0, 1, 2, 3, 8, 9, 10, 11, 12, 13, 14, 15, 16, 17, 18, 39, 40, 41, 56, 58, 64] rfl rfl ?_
      refine ih (j + 1) _ ?_ (by omega) (by omega)
      rw [hstep]
      refine SLe.eqv (by repeat (first | exact TmIn.nil | refine TmIn.cons rfl ?_)) (by repeat (first | exact BxIn.nil | refine BxIn.cons rfl ?_)) rfl
  obtain rfl : j = us.length := by omega
  repeat (first | refine Run.seq ?_ | refine Run.skip ?_ | refine Run.block ?_)
  refine Run.region ?_
  first | refine O.cmp rfl rfl rfl (by first | exact decide_eq_true (by omega) | exact decide_eq_false (by omega)) rfl ?_ | refine O.cmp rfl rfl rfl rfl rfl ?_
  refine O.nil ?_
  try refine Run.keep [0, 1, 2, 3, 8, 9, 10, 11, 12, 13, 14, 15, 16, 17, 18, 39, 40, 41, 56, 58, 64] rfl rfl ?_
  repeat (first | refine Run.seq ?_ | refine Run.skip ?_)
  first | refine Run.condT rfl rfl ?_ | refine Run.condF rfl rfl ?_ | refine Run.condT rfl (by assumption) ?_ | refine Run.condF rfl (by assumption) ?_
  refine Run.exit ?_
  repeat (first | refine thenR_exit ?_ | refine roundR_exit ?_ | refine blockR_exit ?_ | refine blockR_pass rfl ?_)
  generalize cUp down us ws us.length = C at *
  obtain ⟨p, hp⟩ : ∃ p, decide (C < 0) = p := ⟨_, rfl⟩
  obtain ⟨q, hq⟩ : ∃ q, decide (C = 0) = q := ⟨_, rfl⟩
  rw [hp] at s1
  rw [hq] at s2
  by_cases h0 : us.length = 0
  ·
    repeat (first | refine Run.seq ?_ | refine Run.skip ?_ | refine Run.block ?_)
    refine Run.region ?_
    refine O.move rfl rfl ?_
    first | refine O.cmp rfl rfl rfl (by first | exact decide_eq_true (by omega) | exact decide_eq_false (by omega)) rfl ?_ | refine O.cmp rfl rfl rfl rfl rfl ?_
    refine O.move rfl rfl ?_
    first | (refine O.yes rfl rfl (by first | rfl | assumption) ?_; refine O.move rfl rfl ?_) | refine O.no rfl rfl rfl rfl ?_
    first | (refine O.yes rfl rfl (by first | rfl | assumption) ?_; first | refine O.cmp rfl rfl rfl (by first | exact decide_eq_true (by omega) | exact decide_eq_false (by omega)) rfl ?_ | refine O.cmp rfl rfl rfl rfl rfl ?_) | refine O.no rfl rfl rfl rfl ?_
    refine O.pick rfl rfl rfl rfl rfl ?_
    refine O.move rfl rfl ?_
    first | (refine O.yes rfl rfl (by first | rfl | assumption) ?_; refine O.move rfl rfl ?_) | refine O.no rfl rfl rfl rfl ?_
    first | (refine O.yes rfl rfl (by first | rfl | assumption) ?_; refine O.lenN hE T53 rfl rfl rfl newest_pv hum rfl ?_) | refine O.no rfl rfl rfl rfl ?_
    first | (refine O.yes rfl rfl (by first | rfl | assumption) ?_; refine O.cmp (c' := true) rfl rfl rfl (by simpa using h0) rfl ?_) | refine O.no rfl rfl rfl rfl ?_
    first | (refine O.yes rfl rfl (by first | rfl | assumption) ?_; refine O.move rfl rfl ?_) | refine O.no rfl rfl rfl rfl ?_
    first | (refine O.yes rfl rfl (by first | rfl | assumption) ?_; refine O.move rfl rfl ?_) | refine O.no rfl rfl rfl rfl ?_
    first | (refine O.yes rfl rfl (by first | rfl | assumption) ?_; refine O.lenN hE T33 rfl rfl rfl newest_pv hXm rfl ?_) | refine O.no rfl rfl rfl rfl ?_
    first | (refine O.yes rfl rfl (by first | rfl | assumption) ?_; first | refine O.cmp rfl rfl rfl (by first | exact decide_eq_true (by omega) | exact decide_eq_false (by omega)) rfl ?_ | refine O.cmp rfl rfl rfl rfl rfl ?_) | refine O.no rfl rfl rfl rfl ?_
    first | (refine O.yes rfl rfl (by first | rfl | assumption) ?_; refine O.pick rfl rfl rfl rfl rfl ?_) | refine O.no rfl rfl rfl rfl ?_
    refine O.pick rfl rfl rfl rfl rfl ?_
    refine O.move rfl rfl ?_
    first | (refine O.yes rfl rfl (by first | rfl | assumption) ?_; refine O.move rfl rfl ?_) | refine O.no rfl rfl rfl rfl ?_
    first | (refine O.yes rfl rfl (by first | rfl | assumption) ?_; refine O.str hE T33 rfl T5 rfl T9 rfl rfl rfl newest_pv (nums_byv _) rfl rfl ?_) | refine O.no rfl rfl rfl rfl ?_
    first | (refine O.yes rfl rfl (by first | rfl | assumption) ?_; refine O.move rfl rfl ?_) | refine O.no rfl rfl rfl rfl ?_
    first | (refine O.yes rfl rfl (by first | rfl | assumption) ?_; refine O.str hE T33 rfl T5 rfl T9 rfl rfl rfl newest_pv (nums_byv _) rfl rfl ?_) | refine O.no rfl rfl rfl rfl ?_
    first | (refine O.yes rfl rfl (by first | rfl | assumption) ?_; refine O.strLtV rfl rfl s1 rfl ?_) | refine O.no rfl rfl rfl rfl ?_
    first | (refine O.yes rfl rfl (by first | rfl | assumption) ?_; refine O.move rfl rfl ?_) | refine O.no rfl rfl rfl rfl ?_
    first | (refine O.yes rfl rfl (by first | rfl | assumption) ?_; refine O.cmp (c' := p) rfl rfl rfl hp rfl ?_) | refine O.no rfl rfl rfl rfl ?_
    first | (refine O.yes rfl rfl (by first | rfl | assumption) ?_; refine O.eqB (c := true) rfl rfl hE T4 rfl (by simp) rfl ?_) | refine O.no rfl rfl rfl rfl ?_
    refine O.pick rfl rfl rfl rfl rfl ?_
    refine O.move rfl rfl ?_
    first | (refine O.yes rfl rfl (by first | rfl | assumption) ?_; refine O.move rfl rfl ?_) | refine O.no rfl rfl rfl rfl ?_
    first | (refine O.yes rfl rfl (by first | rfl | assumption) ?_; refine O.str hE T33 rfl T5 rfl T9 rfl rfl rfl newest_pv (nums_byv _) rfl rfl ?_) | refine O.no rfl rfl rfl rfl ?_
    first | (refine O.yes rfl rfl (by first | rfl | assumption) ?_; refine O.move rfl rfl ?_) | refine O.no rfl rfl rfl rfl ?_
    first | (refine O.yes rfl rfl (by first | rfl | assumption) ?_; refine O.str hE T33 rfl T5 rfl T9 rfl rfl rfl newest_pv (nums_byv _) rfl rfl ?_) | refine O.no rfl rfl rfl rfl ?_
    first | (refine O.yes rfl rfl (by first | rfl | assumption) ?_; refine O.strEqV rfl rfl s2 rfl ?_) | refine O.no rfl rfl rfl rfl ?_
    first | (refine O.yes rfl rfl (by first | rfl | assumption) ?_; refine O.move rfl rfl ?_) | refine O.no rfl rfl rfl rfl ?_
    first | (refine O.yes rfl rfl (by first | rfl | assumption) ?_; refine O.cmp (c' := q) rfl rfl rfl hq rfl ?_) | refine O.no rfl rfl rfl rfl ?_
    first | (refine O.yes rfl rfl (by first | rfl | assumption) ?_; refine O.eqB (c := true) rfl rfl hE T4 rfl (by simp) rfl ?_) | refine O.no rfl rfl rfl rfl ?_
    refine O.pick rfl rfl rfl rfl rfl ?_
    refine O.move rfl rfl ?_
    first | (refine O.yes rfl rfl (by first | rfl | assumption) ?_; refine O.callE c6 rfl (by first | rfl | simp [closed, men3, mens2_app, mens2_ints, mens2, men2, men1, mens1_app, mens1_ints, mens1]) (by first | rfl | simp [d2, ds1_ints, ds1_app, ds1, d1, ds0_app, ds0_ints, ds0, d0]) rfl ?_) | refine O.no rfl rfl rfl rfl ?_
    refine O.pick rfl rfl rfl rfl rfl ?_
    refine O.assign rfl rfl ?_
    refine O.nil ?_
    try refine Run.keep [0, 1, 2, 3, 8, 9, 10, 11, 12, 13, 14, 15, 16, 17, 18, 39, 40, 41, 56, 58, 64] rfl rfl ?_
    (repeat (first | refine Run.seq ?_ | refine Run.skip ?_)); (try refine Run.ret ?_); first | exact Ends.flat hE (.inr rfl) rfl rfl (AVle.of_eq rfl) rfl | exact Ends.flat hE (.inl rfl) rfl rfl (AVle.of_eq rfl) rfl
  ·
    have hx := hpos h0
    repeat (first | refine Run.seq ?_ | refine Run.skip ?_ | refine Run.block ?_)
    refine Run.region ?_
    refine O.move rfl rfl ?_
    first | refine O.cmp rfl rfl rfl (by first | exact decide_eq_true (by omega) | exact decide_eq_false (by omega)) rfl ?_ | refine O.cmp rfl rfl rfl rfl rfl ?_
    refine O.move rfl rfl ?_
    first | (refine O.yes rfl rfl (by first | rfl | assumption) ?_; refine O.move rfl rfl ?_) | refine O.no rfl rfl rfl rfl ?_
    first | (refine O.yes rfl rfl (by first | rfl | assumption) ?_; first | refine O.cmp rfl rfl rfl (by first | exact decide_eq_true (by omega) | exact decide_eq_false (by omega)) rfl ?_ | refine O.cmp rfl rfl rfl rfl rfl ?_) | refine O.no rfl rfl rfl rfl ?_
    refine O.pick rfl rfl rfl rfl rfl ?_
    refine O.move rfl rfl ?_
    first | (refine O.yes rfl rfl (by first | rfl | assumption) ?_; refine O.move rfl rfl ?_) | refine O.no rfl rfl rfl rfl ?_
    first | (refine O.yes rfl rfl (by first | rfl | assumption) ?_; refine O.lenN hE T53 rfl rfl rfl newest_pv hum rfl ?_) | refine O.no rfl rfl rfl rfl ?_
    first | (refine O.yes rfl rfl (by first | rfl | assumption) ?_; refine O.cmp (c' := false) rfl rfl rfl (by simpa using h0) rfl ?_) | refine O.no rfl rfl rfl rfl ?_
    first | (refine O.yes rfl rfl (by first | rfl | assumption) ?_; refine O.move rfl rfl ?_) | refine O.no rfl rfl rfl rfl ?_
    first | (refine O.yes rfl rfl (by first | rfl | assumption) ?_; refine O.move rfl rfl ?_) | refine O.no rfl rfl rfl rfl ?_
    first | (refine O.yes rfl rfl (by first | rfl | assumption) ?_; refine O.lenN hE T33 rfl rfl rfl newest_pv hXm rfl ?_) | refine O.no rfl rfl rfl rfl ?_
    first | (refine O.yes rfl rfl (by first | rfl | assumption) ?_; refine O.cmp (c' := true) rfl rfl rfl (decide_eq_true (by omega)) rfl ?_) | refine O.no rfl rfl rfl rfl ?_
    first | (refine O.yes rfl rfl (by first | rfl | assumption) ?_; refine O.pick rfl rfl rfl rfl rfl ?_) | refine O.no rfl rfl rfl rfl ?_
    refine O.pick rfl rfl rfl rfl rfl ?_
    refine O.move rfl rfl ?_
    first | (refine O.yes rfl rfl (by first | rfl | assumption) ?_; refine O.move rfl rfl ?_) | refine O.no rfl rfl rfl rfl ?_
    first | (refine O.yes rfl rfl (by first | rfl | assumption) ?_; refine O.str hE T33 rfl T5 rfl T9 rfl rfl rfl newest_pv (nums_byv _) rfl rfl ?_) | refine O.no rfl rfl rfl rfl ?_
    first | (refine O.yes rfl rfl (by first | rfl | assumption) ?_; refine O.move rfl rfl ?_) | refine O.no rfl rfl rfl rfl ?_
    first | (refine O.yes rfl rfl (by first | rfl | assumption) ?_; refine O.str hE T33 rfl T5 rfl T9 rfl rfl rfl newest_pv (nums_byv _) rfl rfl ?_) | refine O.no rfl rfl rfl rfl ?_
    first | (refine O.yes rfl rfl (by first | rfl | assumption) ?_; refine O.strLtV rfl rfl s1 rfl ?_) | refine O.no rfl rfl rfl rfl ?_
    first | (refine O.yes rfl rfl (by first | rfl | assumption) ?_; refine O.move rfl rfl ?_) | refine O.no rfl rfl rfl rfl ?_
    first | (refine O.yes rfl rfl (by first | rfl | assumption) ?_; refine O.cmp (c' := p) rfl rfl rfl hp rfl ?_) | refine O.no rfl rfl rfl rfl ?_
    first | (refine O.yes rfl rfl (by first | rfl | assumption) ?_; refine O.eqB (c := true) rfl rfl hE T4 rfl (by simp) rfl ?_) | refine O.no rfl rfl rfl rfl ?_
    refine O.pick rfl rfl rfl rfl rfl ?_
    refine O.move rfl rfl ?_
    first | (refine O.yes rfl rfl (by first | rfl | assumption) ?_; refine O.move rfl rfl ?_) | refine O.no rfl rfl rfl rfl ?_
    first | (refine O.yes rfl rfl (by first | rfl | assumption) ?_; refine O.str hE T33 rfl T5 rfl T9 rfl rfl rfl newest_pv (nums_byv _) rfl rfl ?_) | refine O.no rfl rfl rfl rfl ?_
    first | (refine O.yes rfl rfl (by first | rfl | assumption) ?_; refine O.move rfl rfl ?_) | refine O.no rfl rfl rfl rfl ?_
    first | (refine O.yes rfl rfl (by first | rfl | assumption) ?_; refine O.str hE T33 rfl T5 rfl T9 rfl rfl rfl newest_pv (nums_byv _) rfl rfl ?_) | refine O.no rfl rfl rfl rfl ?_
    first | (refine O.yes rfl rfl (by first | rfl | assumption) ?_; refine O.strEqV rfl rfl s2 rfl ?_) | refine O.no rfl rfl rfl rfl ?_
    first | (refine O.yes rfl rfl (by first | rfl | assumption) ?_; refine O.move rfl rfl ?_) | refine O.no rfl rfl rfl rfl ?_
    first | (refine O.yes rfl rfl (by first | rfl | assumption) ?_; refine O.cmp (c' := q) rfl rfl rfl hq rfl ?_) | refine O.no rfl rfl rfl rfl ?_
    first | (refine O.yes rfl rfl (by first | rfl | assumption) ?_; refine O.eqB (c := true) rfl rfl hE T4 rfl (by simp) rfl ?_) | refine O.no rfl rfl rfl rfl ?_
    refine O.pick rfl rfl rfl rfl rfl ?_
    refine O.move rfl rfl ?_
    first | (refine O.yes rfl rfl (by first | rfl | assumption) ?_; refine O.callE c6 rfl (by first | rfl | simp [closed, men3, mens2_app, mens2_ints, mens2, men2, men1, mens1_app, mens1_ints, mens1]) (by first | rfl | simp [d2, ds1_ints, ds1_app, ds1, d1, ds0_app, ds0_ints, ds0, d0]) rfl ?_) | refine O.no rfl rfl rfl rfl ?_
    refine O.pick rfl rfl rfl rfl rfl ?_
    refine O.assign rfl rfl ?_
    refine O.nil ?_
    try refine Run.keep [0, 1, 2, 3, 8, 9, 10, 11, 12, 13, 14, 15, 16, 17, 18, 39, 40, 41, 56, 58, 64] rfl rfl ?_
    (repeat (first | refine Run.seq ?_ | refine Run.skip ?_)); (try refine Run.ret ?_); first | exact Ends.flat hE (.inr rfl) rfl rfl (AVle.of_eq rfl) rfl | exact Ends.flat hE (.inl rfl) rfl rfl (AVle.of_eq rfl) rfl
end Go.Proofs.YtokjeodlcilfpaaDoor.Vm
