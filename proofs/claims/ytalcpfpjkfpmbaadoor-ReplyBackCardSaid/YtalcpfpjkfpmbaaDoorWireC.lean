/- A reply told as bytes. Conditions: none beyond the tables of utf8. -/
import Derived.Test.YtalcpfpjkfpmbaaDoorWireB
namespace Go.Proofs.YtalcpfpjkfpmbaaDoor.Vm
open Go Go.RowKit Go.Lib
set_option linter.unusedVariables false
set_option linter.unusedSimpArgs false
attribute [local irreducible] Ops Dr Run eightU esc turnU oneP encP
theorem fdq {m : Int} {j : Int} {k : IntKind} {p : Int} (hp : (2 : Int) ^ (min j.toNat k.bits) = p) (h0 : 0 < p) : m.fdiv (2 ^ (min j.toNat k.bits)) = m / p := by
  rw [hp, Int.fdiv_eq_ediv_of_nonneg _ (by omega)]
theorem w8 {m : Int} : IntKind.u8.wrap m = m % 256 := by rw [IntKind.wrap_u8]
theorem rowsP_app : ∀ a b : List (List Vl), rowsP (a ++ b) = rowsP a ++ rowsP b
  | [], b => rfl
  | r :: a, b => by simp only [List.cons_append, rowsP, rowsP_app a b, List.append_assoc]
theorem rowsP_len : ∀ rs : List (List Vl), (∀ vs ∈ rs, RowOk vs) → (rowsP rs).length ≤ 500 * rs.length
  | [], _ => by simp [rowsP]
  | vs :: rs, h => by
    have ih := rowsP_len rs (fun x hx => h x (by simp [hx]))
    have h1 := h vs (by simp)
    have := encP_len (down := 0) 0 vs h1.2
    have h5 := h1.1
    simp only [rowsP, rowP, List.length_append, List.length_cons]
    omega
set_option maxHeartbeats 4000000 in
theorem fnTell {g : Nat → Option (List PV)} (hV : VStr g) {e c : Int} {rs : List (List Vl)} (he : 0 ≤ e ∧ e ≤ 12) (hc : 0 ≤ c ∧ c ≤ 64) (hn : rs.length ≤ 64) (hrs : ∀ vs ∈ rs, RowOk vs) :
    FnC (En Tryd.prog g) 11 [rplA e c rs] (.tup [.pv (byv (e :: c :: (rs.length : Int) :: rowsP rs)), .pv (.int .i64 0)]) [] := by
  have hE := EnOk g
  have hrm : (((rs.map rowE).length : Nat) : Int) = rs.length := by simp
  have hRl := fun j => rowsP_len (rs.take j) (fun x hx => hrs x (List.mem_of_mem_take hx))
  obtain ⟨H, hH⟩ : ∃ H : List Int, [e, c, (rs.length : Int)] = H := ⟨_, rfl⟩
  have hHl : H.length = 3 := by rw [← hH]; rfl
  rw [show e :: c :: (rs.length : Int) :: rowsP rs = H ++ rowsP rs by rw [← hH]; rfl]
  refine FnC.of Tryd.func11 rfl rfl rfl rfl ?_
  repeat (first | refine Run.seq ?_ | refine Run.skip ?_ | refine Run.block ?_)
  refine Run.region ?_
  refine O.box 1 rfl (by first | rfl | exact cells_ones (by simp [ones_app, ones_ints, ones, AV.one, PV.one])) rfl rfl ?_
  refine O.assign rfl rfl ?_
  refine O.assign rfl rfl ?_
  refine O.nil ?_
  try refine Run.keep [0, 1, 2, 3, 4, 6, 7, 8, 26, 30, 43, 44, 45, 46, 55] rfl rfl ?_
  repeat (first | refine Run.seq ?_ | refine Run.skip ?_ | refine Run.block ?_)
  refine Run.region ?_
  refine O.field hE L36 rfl rfl rfl rfl ?_
  first | refine O.loadS hE T33 rfl rfl rfl (by rfl) rfl ?_ | refine O.loadE hE T33 rfl rfl (by rfl) rfl ?_ | refine O.load hE T33 rfl rfl rfl rfl ?_
  first | refine O.cmp rfl rfl rfl (by first | exact decide_eq_true (by omega) | exact decide_eq_false (by omega)) rfl ?_ | refine O.cmp rfl rfl rfl rfl rfl ?_
  refine O.move rfl rfl ?_
  first | (refine O.yes rfl rfl (by first | rfl | assumption) ?_; refine O.field hE L36 rfl rfl rfl rfl ?_) | refine O.no rfl rfl rfl rfl ?_
  first | (refine O.yes rfl rfl (by first | rfl | assumption) ?_; first | refine O.loadS hE T33 rfl rfl rfl (by rfl) rfl ?_ | refine O.loadE hE T33 rfl rfl (by rfl) rfl ?_ | refine O.load hE T33 rfl rfl rfl rfl ?_) | refine O.no rfl rfl rfl rfl ?_
  first | (refine O.yes rfl rfl (by first | rfl | assumption) ?_; first | refine O.cmp rfl rfl rfl (by first | exact decide_eq_true (by omega) | exact decide_eq_false (by omega)) rfl ?_ | refine O.cmp rfl rfl rfl rfl rfl ?_) | refine O.no rfl rfl rfl rfl ?_
  refine O.pick rfl rfl rfl rfl rfl ?_
  refine O.move rfl rfl ?_
  first | (refine O.yes rfl rfl (by first | rfl | assumption) ?_; refine O.field hE L36 rfl rfl rfl rfl ?_) | refine O.no rfl rfl rfl rfl ?_
  first | (refine O.yes rfl rfl (by first | rfl | assumption) ?_; first | refine O.loadS hE T3 rfl rfl rfl (by rfl) rfl ?_ | refine O.loadE hE T3 rfl rfl (by rfl) rfl ?_ | refine O.load hE T3 rfl rfl rfl rfl ?_) | refine O.no rfl rfl rfl rfl ?_
  first | (refine O.yes rfl rfl (by first | rfl | assumption) ?_; first | refine O.cmp rfl rfl rfl (by first | exact decide_eq_true (by omega) | exact decide_eq_false (by omega)) rfl ?_ | refine O.cmp rfl rfl rfl rfl rfl ?_) | refine O.no rfl rfl rfl rfl ?_
  refine O.pick rfl rfl rfl rfl rfl ?_
  refine O.move rfl rfl ?_
  first | (refine O.yes rfl rfl (by first | rfl | assumption) ?_; refine O.field hE L36 rfl rfl rfl rfl ?_) | refine O.no rfl rfl rfl rfl ?_
  first | (refine O.yes rfl rfl (by first | rfl | assumption) ?_; first | refine O.loadS hE T3 rfl rfl rfl (by rfl) rfl ?_ | refine O.loadE hE T3 rfl rfl (by rfl) rfl ?_ | refine O.load hE T3 rfl rfl rfl rfl ?_) | refine O.no rfl rfl rfl rfl ?_
  first | (refine O.yes rfl rfl (by first | rfl | assumption) ?_; first | refine O.cmp rfl rfl rfl (by first | exact decide_eq_true (by omega) | exact decide_eq_false (by omega)) rfl ?_ | refine O.cmp rfl rfl rfl rfl rfl ?_) | refine O.no rfl rfl rfl rfl ?_
  refine O.pick rfl rfl rfl rfl rfl ?_
  refine O.nil ?_
  try refine Run.keep [0, 1, 2, 3, 4, 6, 7, 8, 26, 30, 43, 44, 45, 46, 55] rfl rfl ?_
  repeat (first | refine Run.seq ?_ | refine Run.skip ?_)
  first | refine Run.condT rfl rfl ?_ | refine Run.condF rfl rfl ?_ | refine Run.condT rfl (by assumption) ?_ | refine Run.condF rfl (by assumption) ?_
  repeat (first | refine Run.seq ?_ | refine Run.skip ?_ | refine Run.block ?_)
  refine Run.region ?_
  refine O.field hE L36 rfl rfl rfl rfl ?_
  first | refine O.loadS hE T34 rfl rfl rfl (by rfl) rfl ?_ | refine O.loadE hE T34 rfl rfl (by rfl) rfl ?_ | refine O.load hE T34 rfl rfl rfl rfl ?_
  refine O.lenN hE T34 rfl rfl rfl newest_pv hrm rfl ?_
  first | refine O.cmp rfl rfl rfl (by first | exact decide_eq_true (by omega) | exact decide_eq_false (by omega)) rfl ?_ | refine O.cmp rfl rfl rfl rfl rfl ?_
  refine O.nil ?_
  try refine Run.keep [0, 1, 2, 3, 4, 6, 7, 8, 26, 30, 43, 44, 45, 46, 55] rfl rfl ?_
  repeat (first | refine Run.seq ?_ | refine Run.skip ?_)
  first | refine Run.condT rfl rfl ?_ | refine Run.condF rfl rfl ?_ | refine Run.condT rfl (by assumption) ?_ | refine Run.condF rfl (by assumption) ?_
  repeat (first | refine Run.seq ?_ | refine Run.skip ?_ | refine Run.block ?_)
  refine Run.region ?_
  refine O.field hE L36 rfl rfl rfl rfl ?_
  first | refine O.loadS hE T33 rfl rfl rfl (by rfl) rfl ?_ | refine O.loadE hE T33 rfl rfl (by rfl) rfl ?_ | refine O.load hE T33 rfl rfl rfl rfl ?_
  refine O.convQ (q := e) hE T33 T5 rfl rfl (by rw [IntKind.wrap_u8]; omega) rfl ?_
  refine O.field hE L36 rfl rfl rfl rfl ?_
  first | refine O.loadS hE T3 rfl rfl rfl (by rfl) rfl ?_ | refine O.loadE hE T3 rfl rfl (by rfl) rfl ?_ | refine O.load hE T3 rfl rfl rfl rfl ?_
  refine O.convQ (q := c) hE T3 T5 rfl rfl (by rw [IntKind.wrap_u8]; omega) rfl ?_
  refine O.field hE L36 rfl rfl rfl rfl ?_
  first | refine O.loadS hE T34 rfl rfl rfl (by rfl) rfl ?_ | refine O.loadE hE T34 rfl rfl (by rfl) rfl ?_ | refine O.load hE T34 rfl rfl rfl rfl ?_
  refine O.lenN hE T34 rfl rfl rfl newest_pv hrm rfl ?_
  refine O.convQ (q := (rs.length : Int)) hE T3 T5 rfl rfl (by rw [IntKind.wrap_u8]; omega) rfl ?_
  refine O.lit hE 41 T27 rfl T5 rfl rfl rfl rfl rfl rfl rfl rfl ?_
  refine O.assign rfl rfl ?_
  refine O.nil ?_
  try refine Run.keep [0, 1, 2, 3, 4, 6, 7, 8, 26, 30, 43, 44, 45, 46, 55] rfl rfl ?_
  repeat (first | refine Run.seq ?_ | refine Run.skip ?_ | refine Run.block ?_)
  refine Run.region ?_
  refine O.field hE L36 rfl rfl rfl rfl ?_
  first | refine O.loadS hE T34 rfl rfl rfl (by rfl) rfl ?_ | refine O.loadE hE T34 rfl rfl (by rfl) rfl ?_ | refine O.load hE T34 rfl rfl rfl rfl ?_
  refine O.lenN hE T34 rfl rfl rfl newest_pv hrm rfl ?_
  refine O.move rfl rfl ?_
  refine O.nil ?_
  try refine Run.keep [0, 1, 2, 3, 4, 6, 7, 8, 26, 30, 43, 44, 45, 46, 55] rfl rfl ?_
  repeat (first | refine Run.seq ?_ | refine Run.skip ?_)
  refine Run.block ?_
  refine Run.loopInv (ι := Nat) (fun j => j ≤ rs.length) (fun j => ⟨74, [(4, .gl 41 (H ++ rowsP (rs.take j)).length), (43, .pv (.lst 1 (rs.map rowE))), (44, .pv (.int .i64 rs.length)), (45, .pv (.int .i64 (j : Int)))], [(41, .lst 5 1 ((H ++ rowsP (rs.take j)).map (PV.int .u8)))]⟩) (fun j => rs.length - j) 0 (Nat.zero_le _) ?_ ?_
  ·
    subst hH
    exact SLe.drop (by repeat (first | exact TmIn.nil | refine TmIn.cons rfl ?_)) (by repeat (first | exact BxIn.nil | refine BxIn.cons rfl ?_)) rfl rfl
  rintro j hj ih
  have hjl := hRl j
  by_cases hlt : j < rs.length
  ·
    obtain ⟨vs, hvs⟩ : ∃ vs, rs[j]? = some vs := ⟨_, List.getElem?_eq_getElem hlt⟩
    obtain ⟨v5, hg⟩ := hrs vs (List.mem_of_getElem? hvs)
    have hat : (rs.map rowE)[(j : Int).toNat]? = some (rowE vs) := by rw [Int.toNat_natCast, List.getElem?_map, hvs]; rfl
    have e1 : rs.take (j + 1) = rs.take j ++ [vs] := by rw [List.take_add_one, hvs]; rfl
    have htl : (rs.take j).length = j := by rw [List.length_take]; omega
    have ce := fnEncode hV v5 hg 0
    have hbl := encP_len (down := 0) 0 vs hg
    have e2 : H ++ rowsP (rs.take (j + 1)) = (H ++ rowsP (rs.take j)) ++ [(vs.length : Int), ((encP 0 0 vs).length : Int) / 256 % 256, ((encP 0 0 vs).length : Int) % 256] ++ encP 0 0 vs := by
      rw [e1, rowsP_app]
      simp [rowsP, rowP]
    generalize encP 0 0 vs = Q at *
    have hXl : (H ++ rowsP (rs.take j)).length ≤ 33000 := by rw [List.length_append]; omega
    generalize H ++ rowsP (rs.take j) = X at *
    have hvm : (((vs.map vlE).length : Nat) : Int) = vs.length := by simp
    have hqm : (((Q.map (PV.int .u8)).length : Nat) : Int) = Q.length := by simp
    repeat (first | refine Run.seq ?_ | refine Run.skip ?_ | refine Run.block ?_)
    refine Run.region ?_
    first | refine O.cmp rfl rfl rfl (by first | exact decide_eq_true (by omega) | exact decide_eq_false (by omega)) rfl ?_ | refine O.cmp rfl rfl rfl rfl rfl ?_
    refine O.nil ?_
    try refine Run.keep [0, 1, 2, 3, 4, 6, 7, 8, 26, 30, 43, 44, 45, 46, 55] rfl rfl ?_
    repeat (first | refine Run.seq ?_ | refine Run.skip ?_)
    first | refine Run.condT rfl rfl ?_ | refine Run.condF rfl rfl ?_ | refine Run.condT rfl (by assumption) ?_ | refine Run.condF rfl (by assumption) ?_
    repeat (first | refine Run.seq ?_ | refine Run.skip ?_ | refine Run.block ?_)
    refine Run.region ?_
    refine O.index hE T34 rfl T37 rfl rfl newest_pv rfl (by omega) hat rfl rfl rfl ?_
    first | refine O.loadS hE T37 rfl rfl rfl (by rfl) rfl ?_ | refine O.loadE hE T37 rfl rfl (by rfl) rfl ?_ | refine O.load hE T37 rfl rfl rfl rfl ?_
    refine O.assign rfl rfl ?_
    refine O.nil ?_
    try refine Run.keep [0, 1, 2, 3, 4, 6, 7, 8, 26, 30, 43, 44, 45, 46, 55] rfl rfl ?_
    repeat (first | refine Run.seq ?_ | refine Run.skip ?_ | refine Run.block ?_)
    refine Run.region ?_
    refine O.move rfl rfl ?_
    refine O.callE ce rfl (by first | rfl | simp [closed, men3, mens2_app, mens2_ints, mens2, men2, men1, mens1_app, mens1_ints, mens1]) (by first | rfl | simp [d2, ds1_ints, ds1_app, ds1, d1, ds0_app, ds0_ints, ds0, d0]) rfl ?_
    refine O.move rfl rfl ?_
    refine O.extract rfl rfl rfl ?_
    refine O.extract rfl rfl rfl ?_
    refine O.assign rfl rfl ?_
    refine O.assign rfl rfl ?_
    refine O.nil ?_
    try refine Run.keep [0, 1, 2, 3, 4, 6, 7, 8, 26, 30, 43, 44, 45, 46, 55] rfl rfl ?_
    repeat (first | refine Run.seq ?_ | refine Run.skip ?_ | refine Run.block ?_)
    refine Run.region ?_
    refine O.move rfl rfl ?_
    first | refine O.cmp rfl rfl rfl (by first | exact decide_eq_true (by omega) | exact decide_eq_false (by omega)) rfl ?_ | refine O.cmp rfl rfl rfl rfl rfl ?_
    refine O.nil ?_
    try refine Run.keep [0, 1, 2, 3, 4, 6, 7, 8, 26, 30, 43, 44, 45, 46, 55] rfl rfl ?_
    repeat (first | refine Run.seq ?_ | refine Run.skip ?_)
    first | refine Run.condT rfl rfl ?_ | refine Run.condF rfl rfl ?_ | refine Run.condT rfl (by assumption) ?_ | refine Run.condF rfl (by assumption) ?_
    repeat (first | refine Run.seq ?_ | refine Run.skip ?_ | refine Run.block ?_)
    refine Run.region ?_
    refine O.move rfl rfl ?_
    refine O.move rfl rfl ?_
    refine O.lenN hE T37 rfl rfl rfl newest_pv hvm rfl ?_
    refine O.convQ (q := (vs.length : Int)) hE T3 T5 rfl rfl (by rw [IntKind.wrap_u8]; omega) rfl ?_
    refine O.move rfl rfl ?_
    refine O.lenN hE T27 rfl rfl rfl newest_pv hqm rfl ?_
    refine O.shrQ rfl rfl (by omega) (fdq (p := 256) (by decide) (by omega)) rfl ?_
    refine O.convQ hE T3 T5 rfl rfl w8 rfl ?_
    refine O.move rfl rfl ?_
    refine O.lenN hE T27 rfl rfl rfl newest_pv hqm rfl ?_
    refine O.convQ hE T3 T5 rfl rfl w8 rfl ?_
    refine O.litV (xs := [(vs.length : Int), (Q.length : Int) / 256 % 256, (Q.length : Int) % 256].map (PV.int .u8)) hE T27 rfl T5 rfl rfl rfl rfl rfl rfl rfl ?_
    refine O.appI (q := X) (r := [(vs.length : Int), (Q.length : Int) / 256 % 256, (Q.length : Int) % 256]) hE T27 rfl T5 rfl rfl rfl rfl rfl newest_pv rfl rfl rfl rfl (by simp only [List.length_cons, List.length_nil, Nat.mul_one]; omega) (by unfold maxLen; simp only [List.length_cons, List.length_nil]; omega) rfl ?_
    refine O.move rfl rfl ?_
    refine O.appI (r := Q) hE T27 rfl T5 rfl rfl rfl rfl rfl newest_pv rfl rfl rfl rfl (by simp only [List.length_append, List.length_cons, List.length_nil, Nat.mul_one]; omega) (by unfold maxLen; simp only [List.length_append, List.length_cons, List.length_nil]; omega) rfl ?_
    refine O.assign rfl rfl ?_
    refine O.nil ?_
    try refine Run.keep [0, 1, 2, 3, 4, 6, 7, 8, 26, 30, 43, 44, 45, 46, 55] rfl rfl ?_
    repeat (first | refine Run.seq ?_ | refine Run.skip ?_ | refine Run.block ?_)
    refine Run.region ?_
    first | refine O.ar rfl rfl rfl (by exact wrap_i64 (by omega) (by omega)) rfl ?_ | refine O.ar rfl rfl rfl rfl rfl ?_
    refine O.move rfl rfl ?_
    refine O.nil ?_
    try refine Run.keep [0, 1, 2, 3, 4, 6, 7, 8, 26, 30, 43, 44, 45, 46, 55] rfl rfl ?_
    refine ih (j + 1) _ ?_ (by omega) (by omega)
    rw [e2]
    exact SLe.drop (by repeat (first | exact TmIn.nil | refine TmIn.cons rfl ?_)) (by repeat (first | exact BxIn.nil | refine BxIn.cons rfl ?_)) rfl rfl
  obtain rfl : j = rs.length := by omega
  rw [List.take_length]
  repeat (first | refine Run.seq ?_ | refine Run.skip ?_ | refine Run.block ?_)
  refine Run.region ?_
  first | refine O.cmp rfl rfl rfl (by first | exact decide_eq_true (by omega) | exact decide_eq_false (by omega)) rfl ?_ | refine O.cmp rfl rfl rfl rfl rfl ?_
  refine O.nil ?_
  try refine Run.keep [0, 1, 2, 3, 4, 6, 7, 8, 26, 30, 43, 44, 45, 46, 55] rfl rfl ?_
  repeat (first | refine Run.seq ?_ | refine Run.skip ?_)
  first | refine Run.condT rfl rfl ?_ | refine Run.condF rfl rfl ?_ | refine Run.condT rfl (by assumption) ?_ | refine Run.condF rfl (by assumption) ?_
  refine Run.exit ?_
  repeat (first | refine thenR_exit ?_ | refine roundR_exit ?_ | refine blockR_exit ?_ | refine blockR_pass rfl ?_)
  repeat (first | refine Run.seq ?_ | refine Run.skip ?_ | refine Run.block ?_)
  refine Run.region ?_
  refine O.move rfl rfl ?_
  refine O.assign rfl rfl ?_
  refine O.assign rfl rfl ?_
  refine O.nil ?_
  try refine Run.keep [0, 1, 2, 3, 4, 6, 7, 8, 26, 30, 43, 44, 45, 46, 55] rfl rfl ?_
  refine Run.ret ?_
  exact Ends.of hE (.inr rfl) rfl rfl (SLe.res0 (AVle.tups (.cons (AVle.lst _ _ _ (lstOf_glV rfl (by simp))) (.cons (AVle.of_eq rfl) .nil))) rfl)
end Go.Proofs.YtalcpfpjkfpmbaaDoor.Vm
