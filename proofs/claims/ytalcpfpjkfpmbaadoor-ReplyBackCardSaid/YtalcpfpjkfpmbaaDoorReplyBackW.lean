/- ReplyBack: its walk. Conditions: none beyond the tables of utf8. -/
import Derived.Test.YtalcpfpjkfpmbaaDoorReplyFixedW
import Derived.Test.YtalcpfpjkfpmbaaDoorCodeS
namespace Go.Proofs.YtalcpfpjkfpmbaaDoor.Vm
open Go Go.RowKit Go.Lib
set_option linter.unusedVariables false
set_option linter.unusedSimpArgs false
attribute [local irreducible] Ops Dr Run eightU esc turnU oneP encP
theorem fnSameRows {g : Nat → Option (List PV)} {rs : List (List Vl)} (hl : rs.length ≤ 1000) (hr : ∀ vs ∈ rs, vs.length ≤ 1000) : FnC (En Tryd.prog g) 22 [.pv (.lst 1 (rs.map rowE)), .pv (.lst 1 (rs.map rowE))] (.pv (.bool true)) [] := by
  have hE := EnOk g
  have hrm : (((rs.map rowE).length : Nat) : Int) = rs.length := by simp
  refine FnC.of Tryd.func22 rfl rfl rfl rfl ?_
  repeat (first | refine Run.seq ?_ | refine Run.skip ?_ | refine Run.block ?_)
  refine Run.region ?_
  refine O.assign rfl rfl ?_
  refine O.nil ?_
  try refine Run.keep [0, 1, 4, 5, 10, 12, 13, 14, 25] rfl rfl ?_
  repeat (first | refine Run.seq ?_ | refine Run.skip ?_ | refine Run.block ?_)
  refine Run.region ?_
  refine O.move rfl rfl ?_
  refine O.lenN hE T34 rfl rfl rfl newest_pv hrm rfl ?_
  refine O.move rfl rfl ?_
  refine O.lenN hE T34 rfl rfl rfl newest_pv hrm rfl ?_
  first | refine O.cmp rfl rfl rfl (by first | exact decide_eq_true (by omega) | exact decide_eq_false (by omega)) rfl ?_ | refine O.cmp rfl rfl rfl rfl rfl ?_
  refine O.nil ?_
  try refine Run.keep [0, 1, 4, 5, 10, 12, 13, 14, 25] rfl rfl ?_
  repeat (first | refine Run.seq ?_ | refine Run.skip ?_)
  first | refine Run.condT rfl rfl ?_ | refine Run.condF rfl rfl ?_ | refine Run.condT rfl (by assumption) ?_ | refine Run.condF rfl (by assumption) ?_
  repeat (first | refine Run.seq ?_ | refine Run.skip ?_ | refine Run.block ?_)
  refine Run.region ?_
  refine O.move rfl rfl ?_
  refine O.lenN hE T34 rfl rfl rfl newest_pv hrm rfl ?_
  refine O.move rfl rfl ?_
  refine O.nil ?_
  try refine Run.keep [0, 1, 4, 5, 10, 12, 13, 14, 25] rfl rfl ?_
  repeat (first | refine Run.seq ?_ | refine Run.skip ?_)
  refine Run.block ?_
  refine Run.loopInv (ι := Nat) (fun j => j ≤ rs.length) (fun j => ⟨27, [(0, .pv (.lst 1 (rs.map rowE))), (1, .pv (.lst 1 (rs.map rowE))), (12, .pv (.int .i64 rs.length)), (13, .pv (.int .i64 (j : Int)))], []⟩) (fun j => rs.length - j) 0 (Nat.zero_le _) ?_ ?_
  ·
    exact SLe.drop (by repeat (first | exact TmIn.nil | refine TmIn.cons rfl ?_)) (by repeat (first | exact BxIn.nil | refine BxIn.cons rfl ?_)) rfl rfl
  rintro j hj ih
  by_cases hlt : j < rs.length
  ·
    obtain ⟨vs, hvs⟩ : ∃ vs, rs[j]? = some vs := ⟨_, List.getElem?_eq_getElem hlt⟩
    have hat : (rs.map rowE)[(j : Int).toNat]? = some (rowE vs) := by rw [Int.toNat_natCast, List.getElem?_map, hvs]; rfl
    have cs := fnSameRow (g := g) (hr vs (List.mem_of_getElem? hvs))
    repeat (first | refine Run.seq ?_ | refine Run.skip ?_ | refine Run.block ?_)
    refine Run.region ?_
    first | refine O.cmp rfl rfl rfl (by first | exact decide_eq_true (by omega) | exact decide_eq_false (by omega)) rfl ?_ | refine O.cmp rfl rfl rfl rfl rfl ?_
    refine O.nil ?_
    try refine Run.keep [0, 1, 4, 5, 10, 12, 13, 14, 25] rfl rfl ?_
    repeat (first | refine Run.seq ?_ | refine Run.skip ?_)
    first | refine Run.condT rfl rfl ?_ | refine Run.condF rfl rfl ?_ | refine Run.condT rfl (by assumption) ?_ | refine Run.condF rfl (by assumption) ?_
    repeat (first | refine Run.seq ?_ | refine Run.skip ?_ | refine Run.block ?_)
    refine Run.region ?_
    refine O.move rfl rfl ?_
    refine O.assign rfl rfl ?_
    refine O.nil ?_
    try refine Run.keep [0, 1, 4, 5, 10, 12, 13, 14, 25] rfl rfl ?_
    repeat (first | refine Run.seq ?_ | refine Run.skip ?_ | refine Run.block ?_)
    refine Run.draw mixed rfl ?_
    refine D.move rfl rfl ?_
    refine D.move rfl rfl ?_
    refine D.index hE T34 rfl T37 rfl rfl newest_pv rfl (by omega) hat rfl rfl rfl ?_
    first | refine D.loadS hE T37 rfl rfl rfl (by rfl) rfl ?_ | refine D.loadE hE T37 rfl rfl (by rfl) rfl ?_ | refine D.load hE T37 rfl rfl rfl rfl ?_
    refine D.move rfl rfl ?_
    refine D.move rfl rfl ?_
    refine D.index hE T34 rfl T37 rfl rfl newest_pv rfl (by omega) hat rfl rfl rfl ?_
    first | refine D.loadS hE T37 rfl rfl rfl (by rfl) rfl ?_ | refine D.loadE hE T37 rfl rfl (by rfl) rfl ?_ | refine D.load hE T37 rfl rfl rfl rfl ?_
    refine D.callE cs rfl (by first | rfl | simp [closed, men3, mens2_app, mens2_ints, mens2, men2, men1, mens1_app, mens1_ints, mens1]) (by first | rfl | simp [d2, ds1_ints, ds1_app, ds1, d1, ds0_app, ds0_ints, ds0, d0]) rfl ?_
    refine D.un rfl rfl rfl rfl rfl ?_
    refine Dr.nil ?_
    refine ⟨rfl, ?_⟩
    try refine Run.keep [0, 1, 4, 5, 10, 12, 13, 14, 25] rfl rfl ?_
    repeat (first | refine Run.seq ?_ | refine Run.skip ?_)
    first | refine Run.condT rfl rfl ?_ | refine Run.condF rfl rfl ?_ | refine Run.condT rfl (by assumption) ?_ | refine Run.condF rfl (by assumption) ?_
    repeat (first | refine Run.seq ?_ | refine Run.skip ?_ | refine Run.block ?_)
    refine Run.region ?_
    first | refine O.ar rfl rfl rfl (by exact wrap_i64 (by omega) (by omega)) rfl ?_ | refine O.ar rfl rfl rfl rfl rfl ?_
    refine O.move rfl rfl ?_
    refine O.nil ?_
    try refine Run.keep [0, 1, 4, 5, 10, 12, 13, 14, 25] rfl rfl ?_
    refine ih (j + 1) _ ?_ (by omega) (by omega)
    exact SLe.drop (by repeat (first | exact TmIn.nil | refine TmIn.cons rfl ?_)) (by repeat (first | exact BxIn.nil | refine BxIn.cons rfl ?_)) rfl rfl
  obtain rfl : j = rs.length := by omega
  repeat (first | refine Run.seq ?_ | refine Run.skip ?_ | refine Run.block ?_)
  refine Run.region ?_
  first | refine O.cmp rfl rfl rfl (by first | exact decide_eq_true (by omega) | exact decide_eq_false (by omega)) rfl ?_ | refine O.cmp rfl rfl rfl rfl rfl ?_
  refine O.nil ?_
  try refine Run.keep [0, 1, 4, 5, 10, 12, 13, 14, 25] rfl rfl ?_
  repeat (first | refine Run.seq ?_ | refine Run.skip ?_)
  first | refine Run.condT rfl rfl ?_ | refine Run.condF rfl rfl ?_ | refine Run.condT rfl (by assumption) ?_ | refine Run.condF rfl (by assumption) ?_
  refine Run.exit ?_
  repeat (first | refine thenR_exit ?_ | refine roundR_exit ?_ | refine blockR_exit ?_ | refine blockR_pass rfl ?_)
  repeat (first | refine Run.seq ?_ | refine Run.skip ?_ | refine Run.block ?_)
  refine Run.region ?_
  refine O.assign rfl rfl ?_
  refine O.nil ?_
  try refine Run.keep [0, 1, 4, 5, 10, 12, 13, 14, 25] rfl rfl ?_
  (repeat (first | refine Run.seq ?_ | refine Run.skip ?_)); (try refine Run.ret ?_); first | exact Ends.flat hE (.inr rfl) rfl rfl (AVle.of_eq rfl) rfl | exact Ends.flat hE (.inl rfl) rfl rfl (AVle.of_eq rfl) rfl
theorem fnSameReply {g : Nat → Option (List PV)} {e c : Int} {rs : List (List Vl)} (hl : rs.length ≤ 1000) (hr : ∀ vs ∈ rs, vs.length ≤ 1000) : FnC (En Tryd.prog g) 13 [rplA e c rs, rplA e c rs] (.pv (.bool true)) [] := by
  have hE := EnOk g
  have cs := fnSameRows (g := g) hl hr
  refine FnC.of Tryd.func13 rfl rfl rfl rfl ?_
  repeat (first | refine Run.seq ?_ | refine Run.skip ?_ | refine Run.block ?_)
  refine Run.region ?_
  refine O.box 2 rfl (by first | rfl | exact cells_ones (by simp [ones_app, ones_ints, ones, AV.one, PV.one])) rfl rfl ?_
  refine O.box 3 rfl (by first | rfl | exact cells_ones (by simp [ones_app, ones_ints, ones, AV.one, PV.one])) rfl rfl ?_
  refine O.assign rfl rfl ?_
  refine O.nil ?_
  try refine Run.keep [0, 1, 2, 3, 4] rfl rfl ?_
  repeat (first | refine Run.seq ?_ | refine Run.skip ?_ | refine Run.block ?_)
  refine Run.region ?_
  refine O.field hE L36 rfl rfl rfl rfl ?_
  first | refine O.loadS hE T33 rfl rfl rfl (by rfl) rfl ?_ | refine O.loadE hE T33 rfl rfl (by rfl) rfl ?_ | refine O.load hE T33 rfl rfl rfl rfl ?_
  refine O.field hE L36 rfl rfl rfl rfl ?_
  first | refine O.loadS hE T33 rfl rfl rfl (by rfl) rfl ?_ | refine O.loadE hE T33 rfl rfl (by rfl) rfl ?_ | refine O.load hE T33 rfl rfl rfl rfl ?_
  refine O.cmp (c' := true) rfl rfl rfl (decide_eq_true rfl) rfl ?_
  refine O.move rfl rfl ?_
  first | (refine O.yes rfl rfl (by first | rfl | assumption) ?_; refine O.field hE L36 rfl rfl rfl rfl ?_) | refine O.no rfl rfl rfl rfl ?_
  first | (refine O.yes rfl rfl (by first | rfl | assumption) ?_; first | refine O.loadS hE T3 rfl rfl rfl (by rfl) rfl ?_ | refine O.loadE hE T3 rfl rfl (by rfl) rfl ?_ | refine O.load hE T3 rfl rfl rfl rfl ?_) | refine O.no rfl rfl rfl rfl ?_
  first | (refine O.yes rfl rfl (by first | rfl | assumption) ?_; refine O.field hE L36 rfl rfl rfl rfl ?_) | refine O.no rfl rfl rfl rfl ?_
  first | (refine O.yes rfl rfl (by first | rfl | assumption) ?_; first | refine O.loadS hE T3 rfl rfl rfl (by rfl) rfl ?_ | refine O.loadE hE T3 rfl rfl (by rfl) rfl ?_ | refine O.load hE T3 rfl rfl rfl rfl ?_) | refine O.no rfl rfl rfl rfl ?_
  first | (refine O.yes rfl rfl (by first | rfl | assumption) ?_; refine O.cmp (c' := true) rfl rfl rfl (decide_eq_true rfl) rfl ?_) | refine O.no rfl rfl rfl rfl ?_
  refine O.pick rfl rfl rfl rfl rfl ?_
  refine O.move rfl rfl ?_
  first | (refine O.yes rfl rfl (by first | rfl | assumption) ?_; refine O.field hE L36 rfl rfl rfl rfl ?_) | refine O.no rfl rfl rfl rfl ?_
  first | (refine O.yes rfl rfl (by first | rfl | assumption) ?_; first | refine O.loadS hE T34 rfl rfl rfl (by rfl) rfl ?_ | refine O.loadE hE T34 rfl rfl (by rfl) rfl ?_ | refine O.load hE T34 rfl rfl rfl rfl ?_) | refine O.no rfl rfl rfl rfl ?_
  first | (refine O.yes rfl rfl (by first | rfl | assumption) ?_; refine O.field hE L36 rfl rfl rfl rfl ?_) | refine O.no rfl rfl rfl rfl ?_
  first | (refine O.yes rfl rfl (by first | rfl | assumption) ?_; first | refine O.loadS hE T34 rfl rfl rfl (by rfl) rfl ?_ | refine O.loadE hE T34 rfl rfl (by rfl) rfl ?_ | refine O.load hE T34 rfl rfl rfl rfl ?_) | refine O.no rfl rfl rfl rfl ?_
  first | (refine O.yes rfl rfl (by first | rfl | assumption) ?_; refine O.callE cs rfl (by first | rfl | simp [closed, men3, mens2_app, mens2_ints, mens2, men2, men1, mens1_app, mens1_ints, mens1]) (by first | rfl | simp [d2, ds1_ints, ds1_app, ds1, d1, ds0_app, ds0_ints, ds0, d0]) rfl ?_) | refine O.no rfl rfl rfl rfl ?_
  refine O.pick rfl rfl rfl rfl rfl ?_
  refine O.assign rfl rfl ?_
  refine O.nil ?_
  try refine Run.keep [0, 1, 2, 3, 4] rfl rfl ?_
  (repeat (first | refine Run.seq ?_ | refine Run.skip ?_)); (try refine Run.ret ?_); first | exact Ends.flat hE (.inr rfl) rfl rfl (AVle.of_eq rfl) rfl | exact Ends.flat hE (.inl rfl) rfl rfl (AVle.of_eq rfl) rfl
/-- Rows that are cut: so many whole ones, and what is none. -/
theorem cutP {g : Nat → Option (List PV)} : ∀ (rs : List (List Vl)) (K : Nat), (∀ vs ∈ rs, RowOk vs) → K < (rowsP rs).length → ∃ j tail, j < rs.length ∧ (rowsP rs).take K = rowsP (rs.take j) ++ tail ∧ (tail.length < 3 ∨ ∃ k m1 m2 t, tail = k :: m1 :: m2 :: t ∧ (t.length : Int) < m1 * 256 + m2)
  | [], K, _, h => by simp [rowsP] at h
  | vs :: r, K, hr, h => by
    have hb := encP_len (down := 0) 0 vs (hr vs (by simp)).2
    have h5 := (hr vs (by simp)).1
    rw [rowsP] at h ⊢
    by_cases hc : K < (rowP vs).length
    · refine ⟨0, (rowP vs).take K, by simp, by rw [List.take_append_of_le_length (by omega)]; simp [rowsP], ?_⟩
      by_cases h3 : K < 3
      · left; rw [List.length_take]; omega
      · obtain ⟨q, rfl⟩ : ∃ q, K = q + 3 := ⟨K - 3, by omega⟩
        right
        refine ⟨_, _, _, (encP 0 0 vs).take q, rfl, ?_⟩
        have hql : q < (encP 0 0 vs).length := by
          unfold rowP at hc
          simp only [List.length_cons] at hc
          omega
        rw [List.length_take]
        generalize (encP 0 0 vs).length = L at *
        omega
    · obtain ⟨j, tail, a1, a2, a3⟩ := cutP (g := g) r (K - (rowP vs).length) (fun x hx => hr x (by simp [hx])) (by rw [List.length_append] at h; omega)
      refine ⟨j + 1, tail, by simp; omega, ?_, a3⟩
      rw [List.take_succ_cons, rowsP, List.append_assoc, ← a2, List.take_append, List.take_of_length_le (by omega)]
theorem told_cut {e c : Int} {rs : List (List Vl)} {K : Nat} (he : 0 ≤ e ∧ e ≤ 12) (hc : 0 ≤ c ∧ c ≤ 64) (hn : rs.length ≤ 64) (hrs : ∀ vs ∈ rs, RowOk vs) (h8 : ∀ z ∈ rowsP rs, 0 ≤ z ∧ z < 256) (hK : K < (e :: c :: (rs.length : Int) :: rowsP rs).length) :
    FnC (En Tryd.prog gT) 12 [.pv (byv ((e :: c :: (rs.length : Int) :: rowsP rs).take K))] (.tup [rpl0, .pv (.int .i64 4)]) [] := by
  by_cases h3 : K < 3
  · exact told_short (by rw [List.length_take]; omega)
  obtain ⟨q, rfl⟩ : ∃ q, K = q + 3 := ⟨K - 3, by omega⟩
  have hq : q < (rowsP rs).length := by simp only [List.length_cons] at hK; omega
  obtain ⟨j, tail, a1, a2, a3⟩ := cutP (g := gT) rs q hrs hq
  have hF : Fate gT rs.length (rs.take j) tail 4 := by
    have hj : (rs.take j).length < rs.length := by rw [List.length_take]; omega
    rcases a3 with h | ⟨k, m1, m2, t, rfl, h⟩
    · exact .short _ hj h
    · exact .cut k m1 m2 t hj h
  have hb : (rowsP rs).length ≤ 500 * rs.length := rowsP_len rs hrs
  have ht : ∀ z ∈ tail, 0 ≤ z ∧ z < 256 := fun z hz => h8 z (List.mem_of_mem_take (by rw [a2]; exact List.mem_append_right _ hz))
  have ct := fnTold (g := gT) (e := e) (c := c) he hc hn (fun v hv => read_good hv) (fun x hx => hrs x (List.mem_of_mem_take hx)) hF ht (by rw [← a2, List.length_take]; omega)
  rw [← a2] at ct
  exact ct
theorem esc_byte : ∀ l : List Int, (∀ c ∈ l, 0 ≤ c ∧ c < 256) → ∀ c ∈ esc l, 0 ≤ c ∧ c < 256
  | [], _, c, hc => by simp [esc] at hc
  | x :: l, h, c, hc => by
    have ih := esc_byte l (fun z hz => h z (by simp [hz]))
    have hx := h x (by simp)
    unfold esc at hc
    split at hc
    · simp only [List.mem_cons] at hc
      rcases hc with rfl | rfl | hc
      · omega
      · omega
      · exact ih c hc
    · rcases List.mem_cons.1 hc with rfl | hc
      · exact hx
      · exact ih c hc
theorem eight_byte (N : Nat) : ∀ c ∈ eightU N, 0 ≤ c ∧ c < 256 := fun c hc => by
  unfold eightU at hc
  obtain ⟨i, _, rfl⟩ := List.mem_map.1 hc
  have := Nat.mod_lt (N / 2 ^ (56 - 8 * i)) (show 256 > 0 by decide)
  omega
theorem txt_byte (s : ByteArray) : ∀ c ∈ txB s, 0 ≤ c ∧ c < 256 := fun c hc => by
  obtain ⟨u, _, rfl⟩ := List.mem_map.1 hc
  have := u.toNat_lt
  omega
theorem one_byte {v : Vl} : ∀ c ∈ oneP v, 0 ≤ c ∧ c < 256 := fun c hc => by
  unfold oneP at hc
  split at hc
  · simp only [List.mem_cons, List.mem_nil_iff, or_false] at hc
    rcases hc with rfl | rfl
    · omega
    · rw [IntKind.wrap_u8]; omega
  · split at hc
    · rcases List.mem_cons.1 hc with rfl | hc
      · omega
      · exact eight_byte _ c hc
    · split at hc
      · rcases List.mem_cons.1 hc with rfl | hc
        · omega
        · exact eight_byte _ c hc
      · split at hc
        · rcases List.mem_cons.1 hc with rfl | hc
          · omega
          · rcases List.mem_append.1 hc with hc | hc
            · exact esc_byte _ (txt_byte _) c hc
            · simp only [List.mem_cons, List.mem_nil_iff, or_false] at hc
              rcases hc with rfl | rfl <;> omega
        · simp only [List.mem_cons, List.mem_nil_iff, or_false] at hc
          omega
theorem encP_bys : ∀ (i : Nat) (vs : List Vl), ∀ z ∈ encP 0 i vs, 0 ≤ z ∧ z < 256
  | _, [], z, hz => by unfold encP at hz; simp at hz
  | i, v :: vs, z, hz => by
    unfold encP at hz
    rcases List.mem_append.1 hz with hz | hz
    · obtain ⟨c, hc, rfl⟩ := List.mem_map.1 hz
      exact (flip_two _ (one_byte c hc)).2
    · exact encP_bys (i + 1) vs z hz
section
variable {E : Env} {n : Nat} {tm : List (Nat × AV)} {bx : List (Nat × Box)} {ops : Array Oper} {l : List Oper} {d : Tmp} {ty : TypeId} {pos : String} {after : Array Edge}
theorem O.maxI {Θ : St → Prop} {x y : Operand} {ts : Array TypeId} {k k' : IntKind} {m j r : Int} (hx : evO E tm x = some (.pv (.int k m))) (hy : evO E tm y = some (.pv (.int k' j))) (hr : (if j > m then j else m) = r) (hd : Nat.blt d n = true) (h : Ops E.P E.g ops l ⟨n, (d, .pv (.int k r)) :: tm, bx⟩ Θ) :
    Ops E.P E.g ops (⟨some d, .call { callee := .builtin .max, args := #[x, y], argTypes := ts }, ty, pos, after, none⟩ :: l) ⟨n, tm, bx⟩ Θ := by
  subst hr
  exact O.max hx hy hd h
end
theorem byv_ok (vs : List Vl) (h : RowOk vs) : ∀ z ∈ rowP vs, 0 ≤ z ∧ z < 256 := by
  intro z hz
  have h5 := h.1
  unfold rowP at hz
  simp only [List.mem_cons] at hz
  rcases hz with rfl | rfl | rfl | hz
  · omega
  · omega
  · omega
  · exact encP_bys 0 vs z hz
theorem rowsP_ok : ∀ rs : List (List Vl), (∀ vs ∈ rs, RowOk vs) → ∀ z ∈ rowsP rs, 0 ≤ z ∧ z < 256
  | [], _, z, hz => by simp [rowsP] at hz
  | vs :: r, h, z, hz => by
    rw [rowsP] at hz
    rcases List.mem_append.1 hz with hz | hz
    · exact byv_ok vs (h vs (by simp)) z hz
    · exact rowsP_ok r (fun x hx => h x (by simp [hx])) z hz
set_option maxHeartbeats 4000000 in
theorem fnReplyBack {l : List Rw} (ee nn cut : Int) (hl : (l.length : Int) ≤ 9223372036854775807) (hr : ∀ r ∈ l, RwOk r) : FnC (En Tryd.prog gT) 4 [.pv (.lst 4 (l.map rawE)), .pv (.int .i64 ee), .pv (.int .i64 nn), .pv (.int .i64 cut)] (.pv (.bool true)) [] := by
  have hE := EnOk gT
  have c1 := fnPick (g := gT) (a := ee) (m := 13) (by omega) (by omega)
  have c2 := fnPick (g := gT) (a := nn) (m := 65) (by omega) (by omega)
  have c3 := fnPick (g := gT) (a := nn) (m := 6) (by omega) (by omega)
  obtain ⟨e, he0, he⟩ : ∃ e : Int, ee % 13 = e ∧ 0 ≤ e ∧ e ≤ 12 := ⟨_, rfl, by omega, by omega⟩
  obtain ⟨c, hc0, hc⟩ : ∃ c : Int, nn % 65 = c ∧ 0 ≤ c ∧ c ≤ 64 := ⟨_, rfl, by omega, by omega⟩
  obtain ⟨k, hk0, hk⟩ : ∃ k : Nat, nn % 6 = (k : Int) ∧ k ≤ 5 := ⟨(nn % 6).toNat, by omega, by omega⟩
  rw [he0] at c1
  rw [hc0] at c2
  rw [hk0] at c3
  have hx : ∀ i : Nat, ∃ vs : List Vl, RowOk vs ∧ FnC (En Tryd.prog gT) 10 [.pv (.lst 4 (((l.take (min (i + 3) l.length)).drop (min i l.length)).map rawE))] (.pv (.lst 4 (vs.map vlE))) [] := fun i => by
    obtain ⟨vs, h1, h2, h3⟩ := vals_ex (g := gT) (rs := (l.take (min (i + 3) l.length)).drop (min i l.length)) (by rw [List.length_drop, List.length_take]; omega) (fun r h => hr r (List.mem_of_mem_take (List.mem_of_mem_drop h)))
    exact ⟨vs, ⟨h1, h2⟩, h3⟩
  obtain ⟨V, hV⟩ : ∃ V : Nat → List Vl, ∀ i, RowOk (V i) ∧ FnC (En Tryd.prog gT) 10 [.pv (.lst 4 (((l.take (min (i + 3) l.length)).drop (min i l.length)).map rawE))] (.pv (.lst 4 ((V i).map vlE))) [] := ⟨fun i => Classical.choose (hx i), fun i => Classical.choose_spec (hx i)⟩
  clear hx
  have hlm : (((l.map rawE).length : Nat) : Int) = l.length := by simp
  obtain ⟨rs, hrs0⟩ : ∃ rs, (List.range k).map V = rs := ⟨_, rfl⟩
  have hrl : rs.length = k := by rw [← hrs0]; simp
  have hrs : ∀ vs ∈ rs, RowOk vs := fun vs h => by
    rw [← hrs0] at h
    obtain ⟨i, _, rfl⟩ := List.mem_map.1 h
    exact (hV i).1
  have cl := fnTell (g := gT) vstr he hc (by omega) hrs
  have h8 := rowsP_ok rs hrs
  have hbl := rowsP_len rs hrs
  have ct := fnTold (g := gT) (e := e) (c := c) (tail := []) (x := 0) he hc (by omega) (fun v hv => read_good hv) hrs (.ok rfl) (by simp) (by rw [List.append_nil]; omega)
  rw [List.append_nil, show tolR e c rs 0 = .tup [rplA e c rs, .pv (.int .i64 0)] from rfl] at ct
  have hBl : (e :: c :: (rs.length : Int) :: rowsP rs).length = 3 + (rowsP rs).length := by simp; omega
  have cp := fnPick (g := gT) (a := cut) (m := ((3 + (rowsP rs).length : Nat) : Int)) (by omega) (by omega)
  obtain ⟨K, hK0, hK⟩ : ∃ K : Nat, cut % ((3 + (rowsP rs).length : Nat) : Int) = (K : Int) ∧ K < 3 + (rowsP rs).length := by
    have h1 := Int.emod_nonneg cut (show ((3 + (rowsP rs).length : Nat) : Int) ≠ 0 by omega)
    have h2 := Int.emod_lt_of_pos cut (show (0 : Int) < ((3 + (rowsP rs).length : Nat) : Int) by omega)
    exact ⟨(cut % ((3 + (rowsP rs).length : Nat) : Int)).toNat, by omega, by omega⟩
  rw [hK0] at cp
  have cc := told_cut (K := K) he hc (by omega) hrs h8 (by omega)
  have csr := fnSameReply (g := gT) (e := e) (c := c) (rs := rs) (by omega) (fun vs h => by have := (hrs vs h).1; omega)
  have hBm : ((((e :: c :: (rs.length : Int) :: rowsP rs).map (PV.int .u8)).length : Nat) : Int) = ((3 + (rowsP rs).length : Nat) : Int) := by rw [List.length_map, hBl]
  have hmx : (if (1 : Int) > ((3 + (rowsP rs).length : Nat) : Int) then (1 : Int) else ((3 + (rowsP rs).length : Nat) : Int)) = ((3 + (rowsP rs).length : Nat) : Int) := by rw [if_neg (by omega)]
  have hyk : ((((e :: c :: (rs.length : Int) :: rowsP rs).map (PV.int .u8)).take (K : Int).toNat).drop (0 : Int).toNat) = ((e :: c :: (rs.length : Int) :: rowsP rs).take K).map (PV.int .u8) := by rw [Int.toNat_natCast, ← List.map_take]; rfl
  generalize hQ : (e :: c :: (rs.length : Int) :: rowsP rs).take K = Q at *
  generalize hB : e :: c :: (rs.length : Int) :: rowsP rs = B at *
  generalize hW : 3 + (rowsP rs).length = W at *
  refine FnC.of Tryd.func4 rfl rfl rfl rfl ?_
  repeat (first | refine Run.seq ?_ | refine Run.skip ?_ | refine Run.block ?_)
  refine Run.region ?_
  refine O.assign rfl rfl ?_
  refine O.nil ?_
  try refine Run.keep [0, 1, 2, 3, 8, 9, 10, 11, 12, 13, 14, 16, 23, 24, 25] rfl rfl ?_
  repeat (first | refine Run.seq ?_ | refine Run.skip ?_ | refine Run.block ?_)
  refine Run.region ?_
  refine O.move rfl rfl ?_
  refine O.callE c1 rfl (by first | rfl | simp [closed, men3, mens2_app, mens2_ints, mens2, men2, men1, mens1_app, mens1_ints, mens1]) (by first | rfl | simp [d2, ds1_ints, ds1_app, ds1, d1, ds0_app, ds0_ints, ds0, d0]) rfl ?_
  refine O.move rfl rfl ?_
  refine O.callE c2 rfl (by first | rfl | simp [closed, men3, mens2_app, mens2_ints, mens2, men2, men1, mens1_app, mens1_ints, mens1]) (by first | rfl | simp [d2, ds1_ints, ds1_app, ds1, d1, ds0_app, ds0_ints, ds0, d0]) rfl ?_
  refine O.build hE T36 L36 rfl rfl rfl ?_
  refine O.alloc hE 9 T36 rfl rfl rfl ?_
  refine O.store hE T36 rfl rfl rfl rfl rfl rfl ?_
  refine O.nil ?_
  try refine Run.keep [0, 1, 2, 3, 8, 9, 10, 11, 12, 13, 14, 16, 23, 24, 25] rfl rfl ?_
  repeat (first | refine Run.seq ?_ | refine Run.skip ?_ | refine Run.block ?_)
  refine Run.region ?_
  refine O.move rfl rfl ?_
  refine O.callE c3 rfl (by first | rfl | simp [closed, men3, mens2_app, mens2_ints, mens2, men2, men1, mens1_app, mens1_ints, mens1]) (by first | rfl | simp [d2, ds1_ints, ds1_app, ds1, d1, ds0_app, ds0_ints, ds0, d0]) rfl ?_
  refine O.move rfl rfl ?_
  refine O.nil ?_
  try refine Run.keep [0, 1, 2, 3, 8, 9, 10, 11, 12, 13, 14, 16, 23, 24, 25] rfl rfl ?_
  refine Run.pre (SLe.nilCell (c := 9) (i := 2) (b := 150) (e := 37) (sz := 1) rfl rfl rfl rfl) ?_
  repeat (first | refine Run.seq ?_ | refine Run.skip ?_)
  refine Run.block ?_
  refine Run.loopInv (ι := Nat) (fun j => j ≤ k) (fun j => ⟨81, [(0, .pv (.lst 4 (l.map rawE))), (3, .pv (.int .i64 cut)), (9, .ptr 9 0), (23, .pv (.int .i64 k)), (24, .pv (.int .i64 (j : Int)))], [(150, .lst 37 1 (((List.range j).map V).map rowE)), (9, .var [.pv (.int .i64 e), .pv (.int .i64 c), .gl 150 ((List.range j).map V).length])]⟩) (fun j => k - j) 0 (Nat.zero_le _) ?_ ?_
  ·
    exact SLe.drop (by repeat (first | exact TmIn.nil | refine TmIn.cons rfl ?_)) (by repeat (first | exact BxIn.nil | refine BxIn.cons rfl ?_)) rfl rfl
  rintro j hj ih
  by_cases hlt : j < k
  ·
    obtain ⟨hro, cv⟩ := hV j
    have e1 : (List.range (j + 1)).map V = (List.range j).map V ++ [V j] := by rw [List.range_succ, List.map_append]; rfl
    have hTl : ((List.range j).map V).length = j := by simp
    generalize (List.range j).map V = T at *
    generalize V j = vs at *
    have q1 : (if (l.length : Int) < (j : Int) then (l.length : Int) else (j : Int)) = ((min j l.length : Nat) : Int) := by split <;> omega
    have q2 : IntKind.i64.wrap ((j : Int) + 3) = ((j + 3 : Nat) : Int) := by rw [wrap_i64 (by omega) (by omega)]; omega
    have q3 : (if (l.length : Int) < ((j + 3 : Nat) : Int) then (l.length : Int) else ((j + 3 : Nat) : Int)) = ((min (j + 3) l.length : Nat) : Int) := by split <;> omega
    have q4 : (((l.map rawE).take ((min (j + 3) l.length : Nat) : Int).toNat).drop ((min j l.length : Nat) : Int).toNat) = ((l.take (min (j + 3) l.length)).drop (min j l.length)).map rawE := by
      rw [Int.toNat_natCast, Int.toNat_natCast, List.map_drop, List.map_take]
    have q5 : min j l.length ≤ min (j + 3) l.length ∧ min (j + 3) l.length ≤ l.length := by omega
    generalize (l.take (min (j + 3) l.length)).drop (min j l.length) = U at *
    generalize min (j + 3) l.length = h3 at *
    generalize min j l.length = h0 at *
    repeat (first | refine Run.seq ?_ | refine Run.skip ?_ | refine Run.block ?_)
    refine Run.region ?_
    first | refine O.cmp rfl rfl rfl (by first | exact decide_eq_true (by omega) | exact decide_eq_false (by omega)) rfl ?_ | refine O.cmp rfl rfl rfl rfl rfl ?_
    refine O.nil ?_
    try refine Run.keep [0, 1, 2, 3, 8, 9, 10, 11, 12, 13, 14, 16, 23, 24, 25] rfl rfl ?_
    repeat (first | refine Run.seq ?_ | refine Run.skip ?_)
    first | refine Run.condT rfl rfl ?_ | refine Run.condF rfl rfl ?_ | refine Run.condT rfl (by assumption) ?_ | refine Run.condF rfl (by assumption) ?_
    repeat (first | refine Run.seq ?_ | refine Run.skip ?_ | refine Run.block ?_)
    refine Run.region ?_
    refine O.move rfl rfl ?_
    refine O.assign rfl rfl ?_
    refine O.nil ?_
    try refine Run.keep [0, 1, 2, 3, 8, 9, 10, 11, 12, 13, 14, 16, 23, 24, 25] rfl rfl ?_
    repeat (first | refine Run.seq ?_ | refine Run.skip ?_ | refine Run.block ?_)
    refine Run.draw mixed rfl ?_
    refine D.field hE L36 rfl rfl rfl rfl ?_
    first | refine D.loadS hE T34 rfl rfl rfl (by rfl) rfl ?_ | refine D.loadE hE T34 rfl rfl (by rfl) rfl ?_ | refine D.load hE T34 rfl rfl rfl rfl ?_
    refine D.move rfl rfl ?_
    refine D.move rfl rfl ?_
    refine D.move rfl rfl ?_
    refine D.lenLstQ hE T32 rfl rfl hlm rfl ?_
    refine D.minI rfl rfl q1 rfl ?_
    refine D.move rfl rfl ?_
    refine D.ar (q := ((j + 3 : Nat) : Int)) rfl rfl rfl q2 rfl ?_
    refine D.move rfl rfl ?_
    refine D.lenLstQ hE T32 rfl rfl hlm rfl ?_
    refine D.minI rfl rfl q3 rfl ?_
    refine D.sliceP hE T32 rfl T57 rfl rfl rfl rfl (by omega) (by omega) (by simp only [List.length_map]; omega) q4 rfl ?_
    refine D.callE cv rfl (by first | rfl | simp [closed, men3, mens2_app, mens2_ints, mens2, men2, men1, mens1_app, mens1_ints, mens1]) (by first | rfl | simp [d2, ds1_ints, ds1_app, ds1, d1, ds0_app, ds0_ints, ds0, d0]) rfl ?_
    refine D.litV (xs := [vs].map rowE) hE T34 rfl T37 rfl rfl rfl rfl rfl rfl rfl ?_
    refine D.appM rowE (q := T) (r := [vs]) hE T34 rfl T37 rfl rfl rfl rfl rfl newest_pv rfl rfl rfl rfl (by simp; omega) (by simp [maxLen]; omega) rfl ?_
    refine D.field hE L36 rfl rfl rfl rfl ?_
    refine D.store hE T34 rfl rfl rfl rfl rfl rfl ?_
    refine Dr.nil ?_
    refine ⟨rfl, ?_⟩
    try refine Run.keep [0, 1, 2, 3, 8, 9, 10, 11, 12, 13, 14, 16, 23, 24, 25] rfl rfl ?_
    repeat (first | refine Run.seq ?_ | refine Run.skip ?_ | refine Run.block ?_)
    refine Run.region ?_
    first | refine O.ar rfl rfl rfl (by exact wrap_i64 (by omega) (by omega)) rfl ?_ | refine O.ar rfl rfl rfl rfl rfl ?_
    refine O.move rfl rfl ?_
    refine O.nil ?_
    try refine Run.keep [0, 1, 2, 3, 8, 9, 10, 11, 12, 13, 14, 16, 23, 24, 25] rfl rfl ?_
    refine ih (j + 1) _ ?_ (by omega) (by omega)
    rw [e1]
    exact SLe.drop (by repeat (first | exact TmIn.nil | refine TmIn.cons rfl ?_)) (by repeat (first | exact BxIn.nil | refine BxIn.cons rfl ?_)) rfl rfl
  obtain rfl : j = k := by omega
  rw [hrs0]
  clear ih
  repeat (first | refine Run.seq ?_ | refine Run.skip ?_ | refine Run.block ?_)
  refine Run.region ?_
  first | refine O.cmp rfl rfl rfl (by first | exact decide_eq_true (by omega) | exact decide_eq_false (by omega)) rfl ?_ | refine O.cmp rfl rfl rfl rfl rfl ?_
  refine O.nil ?_
  try refine Run.keep [0, 1, 2, 3, 8, 9, 10, 11, 12, 13, 14, 16, 23, 24, 25] rfl rfl ?_
  repeat (first | refine Run.seq ?_ | refine Run.skip ?_)
  first | refine Run.condT rfl rfl ?_ | refine Run.condF rfl rfl ?_ | refine Run.condT rfl (by assumption) ?_ | refine Run.condF rfl (by assumption) ?_
  refine Run.exit ?_
  repeat (first | refine thenR_exit ?_ | refine roundR_exit ?_ | refine blockR_exit ?_ | refine blockR_pass rfl ?_)
  refine Run.pre (s1 := ⟨81, [(3, .pv (.int .i64 cut)), (9, .ptr 9 0)], [(9, .var [.pv (.int .i64 e), .pv (.int .i64 c), .pv (.lst 1 (rs.map rowE))])]⟩) ?_ ?_
  ·
    refine SLe.by rfl ?_ ?_ rfl rfl
    · exact TmLe.cons (AVle.of_eq rfl) (TmLe.cons (AVle.of_eq rfl) .nil)
    · exact BxsLe.cons rfl (.var (.cons (AVle.of_eq rfl) (.cons (AVle.of_eq rfl) (.cons (AVle.lst _ _ _ (lstOf_glV (e := 37) rfl (by simp))) .nil)))) .nil
  repeat (first | refine Run.seq ?_ | refine Run.skip ?_ | refine Run.block ?_)
  refine Run.region ?_
  refine O.load hE T36 rfl rfl rfl rfl ?_
  refine O.callE cl rfl (by first | rfl | simp [closed, men3, mens2_app, mens2_ints, mens2, men2, men1, mens1_app, mens1_ints, mens1]) (by first | rfl | simp [d2, ds1_ints, ds1_app, ds1, d1, ds0_app, ds0_ints, ds0, d0]) rfl ?_
  refine O.move rfl rfl ?_
  refine O.extract rfl rfl rfl ?_
  refine O.extract rfl rfl rfl ?_
  refine O.assign rfl rfl ?_
  refine O.assign rfl rfl ?_
  refine O.nil ?_
  try refine Run.keep [0, 1, 2, 3, 8, 9, 10, 11, 12, 13, 14, 16, 23, 24, 25] rfl rfl ?_
  repeat (first | refine Run.seq ?_ | refine Run.skip ?_ | refine Run.block ?_)
  refine Run.region ?_
  refine O.move rfl rfl ?_
  refine O.callE ct rfl (by first | rfl | simp [closed, men3, mens2_app, mens2_ints, mens2, men2, men1, mens1_app, mens1_ints, mens1]) (by first | rfl | simp [d2, ds1_ints, ds1_app, ds1, d1, ds0_app, ds0_ints, ds0, d0]) rfl ?_
  refine O.move rfl rfl ?_
  refine O.extract rfl rfl rfl ?_
  refine O.extract rfl rfl rfl ?_
  refine O.alloc hE 13 T36 rfl rfl rfl ?_
  refine O.store hE T36 rfl rfl rfl rfl rfl rfl ?_
  refine O.assign rfl rfl ?_
  refine O.nil ?_
  try refine Run.keep [0, 1, 2, 3, 8, 9, 10, 11, 12, 13, 14, 16, 23, 24, 25] rfl rfl ?_
  repeat (first | refine Run.seq ?_ | refine Run.skip ?_ | refine Run.block ?_)
  refine Run.region ?_
  refine O.move rfl rfl ?_
  refine O.move rfl rfl ?_
  refine O.move rfl rfl ?_
  refine O.lenN hE T27 rfl rfl rfl newest_pv hBm rfl ?_
  refine O.maxI rfl rfl hmx rfl ?_
  refine O.callE cp rfl (by first | rfl | simp [closed, men3, mens2_app, mens2_ints, mens2, men2, men1, mens1_app, mens1_ints, mens1]) (by first | rfl | simp [d2, ds1_ints, ds1_app, ds1, d1, ds0_app, ds0_ints, ds0, d0]) rfl ?_
  refine O.slice (ys := Q.map (PV.int .u8)) hE T27 rfl T5 rfl rfl newest_pv rfl rfl rfl (by omega) (by omega) (by show (K : Int) ≤ ((B.map (PV.int .u8)).length : Nat); omega) hyk rfl ?_
  refine O.callE cc rfl (by first | rfl | simp [closed, men3, mens2_app, mens2_ints, mens2, men2, men1, mens1_app, mens1_ints, mens1]) (by first | rfl | simp [d2, ds1_ints, ds1_app, ds1, d1, ds0_app, ds0_ints, ds0, d0]) rfl ?_
  refine O.move rfl rfl ?_
  refine O.extract rfl rfl rfl ?_
  refine O.extract rfl rfl rfl ?_
  refine O.alloc hE 15 T36 rfl rfl rfl ?_
  refine O.store hE T36 rfl rfl rfl rfl rfl rfl ?_
  refine O.assign rfl rfl ?_
  refine O.nil ?_
  try refine Run.keep [0, 1, 2, 3, 8, 9, 10, 11, 12, 13, 14, 16, 23, 24, 25] rfl rfl ?_
  repeat (first | refine Run.seq ?_ | refine Run.skip ?_ | refine Run.block ?_)
  refine Run.region ?_
  refine O.move rfl rfl ?_
  first | refine O.cmp rfl rfl rfl (by first | exact decide_eq_true (by omega) | exact decide_eq_false (by omega)) rfl ?_ | refine O.cmp rfl rfl rfl rfl rfl ?_
  refine O.move rfl rfl ?_
  first | (refine O.yes rfl rfl (by first | rfl | assumption) ?_; refine O.move rfl rfl ?_) | refine O.no rfl rfl rfl rfl ?_
  first | (refine O.yes rfl rfl (by first | rfl | assumption) ?_; first | refine O.cmp rfl rfl rfl (by first | exact decide_eq_true (by omega) | exact decide_eq_false (by omega)) rfl ?_ | refine O.cmp rfl rfl rfl rfl rfl ?_) | refine O.no rfl rfl rfl rfl ?_
  refine O.pick rfl rfl rfl rfl rfl ?_
  refine O.move rfl rfl ?_
  first | (refine O.yes rfl rfl (by first | rfl | assumption) ?_; refine O.move rfl rfl ?_) | refine O.no rfl rfl rfl rfl ?_
  first | (refine O.yes rfl rfl (by first | rfl | assumption) ?_; first | refine O.cmp rfl rfl rfl (by first | exact decide_eq_true (by omega) | exact decide_eq_false (by omega)) rfl ?_ | refine O.cmp rfl rfl rfl rfl rfl ?_) | refine O.no rfl rfl rfl rfl ?_
  refine O.pick rfl rfl rfl rfl rfl ?_
  refine O.move rfl rfl ?_
  first | (refine O.yes rfl rfl (by first | rfl | assumption) ?_; refine O.load hE T36 rfl rfl rfl rfl ?_) | refine O.no rfl rfl rfl rfl ?_
  first | (refine O.yes rfl rfl (by first | rfl | assumption) ?_; refine O.load hE T36 rfl rfl rfl rfl ?_) | refine O.no rfl rfl rfl rfl ?_
  first | (refine O.yes rfl rfl (by first | rfl | assumption) ?_; refine O.callE csr rfl (by first | rfl | simp [closed, men3, mens2_app, mens2_ints, mens2, men2, men1, mens1_app, mens1_ints, mens1]) (by first | rfl | simp [d2, ds1_ints, ds1_app, ds1, d1, ds0_app, ds0_ints, ds0, d0]) rfl ?_) | refine O.no rfl rfl rfl rfl ?_
  refine O.pick rfl rfl rfl rfl rfl ?_
  refine O.assign rfl rfl ?_
  refine O.nil ?_
  try refine Run.keep [0, 1, 2, 3, 8, 9, 10, 11, 12, 13, 14, 16, 23, 24, 25] rfl rfl ?_
  (repeat (first | refine Run.seq ?_ | refine Run.skip ?_)); (try refine Run.ret ?_); first | exact Ends.flat hE (.inr rfl) rfl rfl (AVle.of_eq rfl) rfl | exact Ends.flat hE (.inl rfl) rfl rfl (AVle.of_eq rfl) rfl
end Go.Proofs.YtalcpfpjkfpmbaaDoor.Vm
