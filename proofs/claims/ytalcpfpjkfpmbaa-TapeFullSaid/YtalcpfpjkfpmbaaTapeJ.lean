/- Tapes of raw things; lists alike. Conditions: none. -/
import Derived.Test.YtalcpfpjkfpmbaaTapeI
namespace Go.Proofs.Ytalcpfpjkfpmbaa.Vm
open Go Go.RowKit
set_option linter.unusedVariables false
set_option linter.unusedSimpArgs false
section
variable {E : Env} {n : Nat} {tm : List (Nat × AV)} {bx : List (Nat × Box)} {ops : Array Oper} {l : List Oper} {d : Tmp} {ty : TypeId} {pos : String} {after : Array Edge}
theorem D.str {Θ : List Rec → St → Prop} {sr t e : TypeId} {y : Operand} {i ie it : TI} {sz : Nat} {xs : List PV} {ns : List Int} {b : ByteArray} (hE : E.Ok) (ht : E.T sr = some i) (hk : i.desc = .slc e) (he : E.T e = some ie) (hek : ie.desc = .int .u8) (htt : E.T t = some it) (htk : it.desc = .strg) (hy : evO E tm y = some (.pv (.lst sz xs))) (hns : nums xs = some ns) (hb : strOfNums ns = b)
    (hd : Nat.blt d n = true) (h : Dr E.P E.g ops l ⟨n, (d, .pv (.str b)) :: tm, bx⟩ (fun rs => Θ (⟨rtOf y (.pv (.lst sz xs)), [], [], some d, .pv (.str b), []⟩ :: rs))) : Dr E.P E.g ops (⟨some d, .convert sr t y, ty, pos, after, none⟩ :: l) ⟨n, tm, bx⟩ Θ :=
  D.of (rt := rtOf y (.pv (.lst sz xs))) (rb := []) (rt_now hy) none_met hd (fun s hs _ hd' => OpOk.strOf (s := s) (hE.t _ _ ht) hk (hE.t _ _ he) hek (hE.t _ _ htt) htk (evO_ok (n := s.n) (bx := s.bx) (rt_ev hy hs)) rfl hns hb (fun t ht => by obtain rfl := Option.some.inj ht; exact hd')) h
theorem D.strNe {Θ : List Rec → St → Prop} {t t' : TypeId} {y z : Operand} {s s' : ByteArray} {c : Bool} (hy : evO E tm y = some (.pv (.str s))) (hz : evO E tm z = some (.pv (.str s'))) (hc : (!(s.toList == s'.toList)) = c) (hd : Nat.blt d n = true) (h : Dr E.P E.g ops l ⟨n, (d, .pv (.bool c)) :: tm, bx⟩ (fun rs => Θ (⟨rtOf y (.pv (.str s)) ++ rtOf z (.pv (.str s')), [], [], some d, .pv (.bool c), []⟩ :: rs))) :
    Dr E.P E.g ops (⟨some d, .binOp .neq t y z t', ty, pos, after, none⟩ :: l) ⟨n, tm, bx⟩ Θ := by
  subst hc
  exact D.bin (v := .bool (!(s.toList == s'.toList))) hy hz rfl rfl rfl rfl hd h
end
attribute [local irreducible] Ops Dr Run
theorem nums_byt : ∀ l : List Int, nums (l.map (PV.int .u8)) = some l
  | [] => rfl
  | x :: l => by simp only [List.map_cons, nums, nums_byt l]; rfl
variable {g : Nat → Option (List PV)}
theorem fnSameLists {ps : List (List Int)} (hl : (ps.length : Int) ≤ 1000000) : FnC (En Try.prog g) 12 [.pv (.lst 1 (ps.map byP)), .pv (.lst 1 (ps.map byP))] (.pv (.bool true)) [] := by
  have hE := EnOk g
  have hlen : (ps.map byP).length = ps.length := by simp
  refine FnC.of Try.func12 rfl rfl rfl rfl ?_
  repeat (first | refine Run.seq ?_ | refine Run.skip ?_ | refine Run.block ?_)
  refine Run.region ?_
  refine O.assign rfl rfl ?_
  refine O.nil ?_
  try refine Run.keep [0, 1, 4, 5, 10, 12, 13, 14, 26] rfl rfl ?_
  repeat (first | refine Run.seq ?_ | refine Run.skip ?_ | refine Run.block ?_)
  refine Run.region ?_
  refine O.move rfl rfl ?_
  first | refine O.lenN hE T33 rfl rfl rfl (by first | exact newest_pv | exact newest_gl rfl rfl | trivial) lenC rfl ?_ | refine O.lenLst hE T33 rfl rfl rfl (by first | exact newest_pv | exact newest_gl rfl rfl | trivial) rfl ?_
  refine O.move rfl rfl ?_
  first | refine O.lenN hE T33 rfl rfl rfl (by first | exact newest_pv | exact newest_gl rfl rfl | trivial) lenC rfl ?_ | refine O.lenLst hE T33 rfl rfl rfl (by first | exact newest_pv | exact newest_gl rfl rfl | trivial) rfl ?_
  first | refine O.cmp rfl rfl rfl (by first | exact decide_eq_true (by omega) | exact decide_eq_false (by omega)) rfl ?_ | refine O.cmp rfl rfl rfl rfl rfl ?_
  refine O.nil ?_
  try refine Run.keep [0, 1, 4, 5, 10, 12, 13, 14, 26] rfl rfl ?_
  repeat (first | refine Run.seq ?_ | refine Run.skip ?_)
  first | refine Run.condT rfl rfl ?_ | refine Run.condF rfl rfl ?_ | refine Run.condT rfl (by assumption) ?_ | refine Run.condF rfl (by assumption) ?_
  repeat (first | refine Run.seq ?_ | refine Run.skip ?_ | refine Run.block ?_)
  refine Run.region ?_
  refine O.move rfl rfl ?_
  first | refine O.lenN hE T33 rfl rfl rfl (by first | exact newest_pv | exact newest_gl rfl rfl | trivial) lenC rfl ?_ | refine O.lenLst hE T33 rfl rfl rfl (by first | exact newest_pv | exact newest_gl rfl rfl | trivial) rfl ?_
  refine O.move rfl rfl ?_
  refine O.nil ?_
  try refine Run.keep [0, 1, 4, 5, 10, 12, 13, 14, 26] rfl rfl ?_
  repeat (first | refine Run.seq ?_ | refine Run.skip ?_)
  refine Run.block ?_
  refine Run.loopInv (ι := Nat) (fun j => j ≤ ps.length) (fun j => ⟨28, [(0, .pv (.lst 1 (ps.map byP))), (1, .pv (.lst 1 (ps.map byP))), (4, .pv (.bool false)), (12, .pv (.int .i64 ps.length)), (13, .pv (.int .i64 j))], []⟩) (fun j => ps.length - j) 0 (by omega) ?_ ?_
  ·
    refine SLe.eqv (by repeat (first | exact TmIn.nil | refine TmIn.cons rfl ?_)) (by repeat (first | exact BxIn.nil | refine BxIn.cons rfl ?_)) rfl
  rintro j hj ih
  by_cases hlt : j < ps.length
  ·
    have hat : (ps.map byP)[(j : Int).toNat]? = some (byP (ps.getD j [])) := by rw [Int.toNat_natCast]; rw [List.getElem?_map, List.getD_eq_getElem?_getD, List.getElem?_eq_getElem hlt]; rfl
    generalize ps.getD j [] = P at *
    have hs : (!((strOfNums P).toList == (strOfNums P).toList)) = false := by rw [beq_self_eq_true]; rfl
    repeat (first | refine Run.seq ?_ | refine Run.skip ?_ | refine Run.block ?_)
    refine Run.region ?_
    first | refine O.cmp rfl rfl rfl (by first | exact decide_eq_true (by omega) | exact decide_eq_false (by omega)) rfl ?_ | refine O.cmp rfl rfl rfl rfl rfl ?_
    refine O.nil ?_
    try refine Run.keep [0, 1, 4, 5, 10, 12, 13, 14, 26] rfl rfl ?_
    repeat (first | refine Run.seq ?_ | refine Run.skip ?_)
    first | refine Run.condT rfl rfl ?_ | refine Run.condF rfl rfl ?_ | refine Run.condT rfl (by assumption) ?_ | refine Run.condF rfl (by assumption) ?_
    repeat (first | refine Run.seq ?_ | refine Run.skip ?_ | refine Run.block ?_)
    refine Run.region ?_
    refine O.move rfl rfl ?_
    refine O.assign rfl rfl ?_
    refine O.nil ?_
    try refine Run.keep [0, 1, 4, 5, 10, 12, 13, 14, 26] rfl rfl ?_
    repeat (first | refine Run.seq ?_ | refine Run.skip ?_ | refine Run.block ?_)
    refine Run.draw mixed rfl ?_
    refine D.move rfl rfl ?_
    refine D.move rfl rfl ?_
    refine D.index hE T33 rfl T32 rfl rfl newest_pv rfl (by omega) hat rfl rfl rfl ?_
    first | refine D.loadS hE T32 rfl rfl rfl (by rfl) rfl ?_ | refine D.loadE hE T32 rfl rfl (by rfl) rfl ?_ | refine D.load hE T32 rfl rfl rfl rfl ?_
    refine D.str hE T32 rfl T5 rfl T9 rfl rfl (nums_byt _) rfl rfl ?_
    refine D.move rfl rfl ?_
    refine D.move rfl rfl ?_
    refine D.index hE T33 rfl T32 rfl rfl newest_pv rfl (by omega) hat rfl rfl rfl ?_
    first | refine D.loadS hE T32 rfl rfl rfl (by rfl) rfl ?_ | refine D.loadE hE T32 rfl rfl (by rfl) rfl ?_ | refine D.load hE T32 rfl rfl rfl rfl ?_
    refine D.str hE T32 rfl T5 rfl T9 rfl rfl (nums_byt _) rfl rfl ?_
    refine D.strNe rfl rfl hs rfl ?_
    refine Dr.nil ?_
    refine ⟨rfl, ?_⟩
    try refine Run.keep [0, 1, 4, 5, 10, 12, 13, 14, 26] rfl rfl ?_
    repeat (first | refine Run.seq ?_ | refine Run.skip ?_)
    first | refine Run.condT rfl rfl ?_ | refine Run.condF rfl rfl ?_ | refine Run.condT rfl (by assumption) ?_ | refine Run.condF rfl (by assumption) ?_
    repeat (first | refine Run.seq ?_ | refine Run.skip ?_ | refine Run.block ?_)
    refine Run.region ?_
    first | refine O.ar rfl rfl rfl (by exact wrap_i64 (by omega) (by omega)) rfl ?_ | refine O.ar rfl rfl rfl rfl rfl ?_
    refine O.move rfl rfl ?_
    refine O.nil ?_
    try refine Run.keep [0, 1, 4, 5, 10, 12, 13, 14, 26] rfl rfl ?_
    exact ih (j + 1) _ (by refine SLe.eqv (by repeat (first | exact TmIn.nil | refine TmIn.cons rfl ?_)) (by repeat (first | exact BxIn.nil | refine BxIn.cons rfl ?_)) rfl) (by omega) (by omega)
  repeat (first | refine Run.seq ?_ | refine Run.skip ?_ | refine Run.block ?_)
  refine Run.region ?_
  first | refine O.cmp rfl rfl rfl (by first | exact decide_eq_true (by omega) | exact decide_eq_false (by omega)) rfl ?_ | refine O.cmp rfl rfl rfl rfl rfl ?_
  refine O.nil ?_
  try refine Run.keep [0, 1, 4, 5, 10, 12, 13, 14, 26] rfl rfl ?_
  repeat (first | refine Run.seq ?_ | refine Run.skip ?_)
  first | refine Run.condT rfl rfl ?_ | refine Run.condF rfl rfl ?_ | refine Run.condT rfl (by assumption) ?_ | refine Run.condF rfl (by assumption) ?_
  refine Run.exit ?_
  repeat (first | refine thenR_exit ?_ | refine roundR_exit ?_ | refine blockR_exit ?_ | refine blockR_pass rfl ?_)
  repeat (first | refine Run.seq ?_ | refine Run.skip ?_ | refine Run.block ?_)
  refine Run.region ?_
  refine O.assign rfl rfl ?_
  refine O.nil ?_
  try refine Run.keep [0, 1, 4, 5, 10, 12, 13, 14, 26] rfl rfl ?_
  (repeat (first | refine Run.seq ?_ | refine Run.skip ?_)); (try refine Run.ret ?_); first | exact Ends.flat hE (.inr rfl) rfl rfl (AVle.of_eq rfl) rfl | exact Ends.flat hE (.inl rfl) rfl rfl (AVle.of_eq rfl) rfl
theorem fnSameNe {A B : List (List Int)} (hl : A.length ≠ B.length) : FnC (En Try.prog g) 12 [.pv (.lst 1 (A.map byP)), .pv (.lst 1 (B.map byP))] (.pv (.bool false)) [] := by
  have hE := EnOk g
  have hA : (((A.map byP).length : Nat) : Int) = A.length := by simp
  have hB : (((B.map byP).length : Nat) : Int) = B.length := by simp
  refine FnC.of Try.func12 rfl rfl rfl rfl ?_
  repeat (first | refine Run.seq ?_ | refine Run.skip ?_ | refine Run.block ?_)
  refine Run.region ?_
  refine O.assign rfl rfl ?_
  refine O.nil ?_
  try refine Run.keep [0, 1, 4, 5, 10, 12, 13, 14, 26] rfl rfl ?_
  repeat (first | refine Run.seq ?_ | refine Run.skip ?_ | refine Run.block ?_)
  refine Run.region ?_
  refine O.move rfl rfl ?_
  refine O.lenN hE T33 rfl rfl rfl newest_pv hA rfl ?_
  refine O.move rfl rfl ?_
  refine O.lenN hE T33 rfl rfl rfl newest_pv hB rfl ?_
  first | refine O.cmp rfl rfl rfl (by first | exact decide_eq_true (by omega) | exact decide_eq_false (by omega)) rfl ?_ | refine O.cmp rfl rfl rfl rfl rfl ?_
  refine O.nil ?_
  try refine Run.keep [0, 1, 4, 5, 10, 12, 13, 14, 26] rfl rfl ?_
  repeat (first | refine Run.seq ?_ | refine Run.skip ?_)
  first | refine Run.condT rfl rfl ?_ | refine Run.condF rfl rfl ?_ | refine Run.condT rfl (by assumption) ?_ | refine Run.condF rfl (by assumption) ?_
  repeat (first | refine Run.seq ?_ | refine Run.skip ?_ | refine Run.block ?_)
  refine Run.region ?_
  refine O.assign rfl rfl ?_
  refine O.nil ?_
  try refine Run.keep [0, 1, 4, 5, 10, 12, 13, 14, 26] rfl rfl ?_
  (repeat (first | refine Run.seq ?_ | refine Run.skip ?_)); (try refine Run.ret ?_); first | exact Ends.flat hE (.inr rfl) rfl rfl (AVle.of_eq rfl) rfl | exact Ends.flat hE (.inl rfl) rfl rfl (AVle.of_eq rfl) rfl
/-- A text's bytes. -/
def btn (s : ByteArray) : List Int := s.data.toList.map fun c => (c.toNat : Int)
theorem byts_btn (s : ByteArray) : byts s = (btn s).map (PV.int .u8) := by simp [byts, btn]
theorem btn_len (s : ByteArray) : (btn s).length = s.size := by unfold btn; rw [List.length_map, Array.length_toList]; rfl
theorem btn_ok (s : ByteArray) : bOk (btn s) := fun z hz => by
  obtain ⟨c, _, rfl⟩ := List.mem_map.1 hz
  have := c.toNat_lt
  omega
/-- The record that a raw thing makes. -/
def recP (r : Rw) : List Int := IntKind.u8.wrap r.a :: btn (r.s.extract 0 (if (60 : Int) < (r.s.size : Int) then (60 : Int) else (r.s.size : Int)).toNat)
theorem recP_len (r : Rw) : 1 ≤ (recP r).length ∧ (recP r).length ≤ 61 := by
  unfold recP
  rw [List.length_cons, btn_len, ByteArray.size_extract]
  split <;> omega
theorem recP_ok (r : Rw) : rOk (recP r) := by
  have h := recP_len r
  refine ⟨⟨h.1, by omega⟩, fun z hz => ?_⟩
  unfold recP at hz
  rcases List.mem_cons.1 hz with rfl | hz
  · rw [IntKind.wrap_u8]; omega
  · exact btn_ok _ z hz
/-- What lasts of a tape of so many records. -/
def tpL (rc : List (List Int)) : Nat → List (List Int)
  | 0 => List.replicate 30 zer
  | j + 1 => (apR (tpL rc j) (frms (rc.take j)).length (frms (rc.take j) ++ (hdr (rc.getD j []) ++ rc.getD j [])) (-1)).1
theorem frms_len (rc : List (List Int)) (h : ∀ r ∈ rc, r.length ≤ 101) : (frms rc).length ≤ 107 * rc.length := by
  induction rc with
  | nil => simp [frms]
  | cons r rc ih =>
    have := ih (fun x hx => h x (by simp [hx]))
    have h1 := h r (by simp)
    simp only [frms, List.length_append, hdr_len, List.length_cons]
    omega
theorem frms_snoc (rs : List (List Int)) (r : List Int) : frms (rs ++ [r]) = frms rs ++ (hdr r ++ r) := by
  rw [frms_app]; simp [frms]
theorem tp_ok {rc : List (List Int)} (h : ∀ r ∈ rc, rOk r ∧ r.length ≤ 61) (h8 : rc.length ≤ 8) : ∀ j, j ≤ rc.length → TG (tpL rc j) (frms (rc.take j)) ∧ (tpL rc j).length = 30
  | 0, _ => by
    refine ⟨⟨by simp [tpL], by simp [tpL], fun S hS => by rw [(List.mem_replicate.1 hS).2]; simp, by show (List.replicate 30 zer).getD 0 [] = hsec 0; decide +kernel, by simp [frms], fun p hp => by simp [frms] at hp⟩, by simp [tpL]⟩
  | j + 1, hj => by
    obtain ⟨t, hl⟩ := tp_ok h h8 j (by omega)
    have hf := frms_len (rc.take j) (fun r hr => by have := (h r (List.mem_of_mem_take hr)).2; omega)
    have htl : (rc.take j).length = j := by rw [List.length_take]; omega
    obtain ⟨r, hr⟩ : ∃ r, rc[j]? = some r := ⟨_, List.getElem?_eq_getElem (by omega)⟩
    have hrm := h r (List.mem_of_getElem? hr)
    have hg : rc.getD j [] = r := by rw [List.getD_eq_getElem?_getD, hr]; rfl
    have ht : rc.take (j + 1) = rc.take j ++ [r] := by rw [List.take_add_one, hr]; rfl
    have hal : (frms (rc.take j) ++ (hdr r ++ r)).length = (frms (rc.take j)).length + (6 + r.length) := by simp [hdr_len]
    have := apR_ok t (all := frms (rc.take j) ++ (hdr r ++ r)) (by rw [hl]; omega) (by omega) (by omega) (fun p hp => by rw [List.getElem?_append_left hp]) (-1)
    obtain ⟨_, a2, a3, a4, _⟩ := this
    rw [tpL, hg, ht, frms_snoc]
    exact ⟨(a4 (a3 (.inl (by omega)))).2, by rw [a2]; exact hl⟩
theorem tp_step {rc : List (List Int)} (h : ∀ r ∈ rc, rOk r ∧ r.length ≤ 61) (h8 : rc.length ≤ 8) {j : Nat} {r : List Int} (hr : rc[j]? = some r) :
    FnC (En Try.prog g) 8 [dskA (tpL rc j) [], .pv (byP r), .pv (.int .i64 (-1))] (.tup [dskA (tpL rc (j + 1)) [], .pv (.bool true), .pv (.int .i64 0)]) [] := by
  have hjl := (List.getElem?_eq_some_iff.1 hr).1
  obtain ⟨t, hl⟩ := tp_ok h h8 j (by omega)
  have hf := frms_len (rc.take j) (fun r hr => by have := (h r (List.mem_of_mem_take hr)).2; omega)
  have htl : (rc.take j).length = j := by rw [List.length_take]; omega
  have hrm := h r (List.mem_of_getElem? hr)
  have hg : rc.getD j [] = r := by rw [List.getD_eq_getElem?_getD, hr]; rfl
  have hal : (frms (rc.take j) ++ (hdr r ++ r)).length = (frms (rc.take j)).length + (6 + r.length) := by simp [hdr_len]
  have c := fnAppend (g := g) t (fun x hx => (h x (List.mem_of_mem_take hx)).1) hrm.1 (by rw [hl]; omega) (-1) (by omega)
  obtain ⟨_, a2, a3, a4, _⟩ := apR_ok t (all := frms (rc.take j) ++ (hdr r ++ r)) (by rw [hl]; omega) (by omega) (by omega) (fun p hp => by rw [List.getElem?_append_left hp]) (-1)
  have e3 := a3 (.inl (by omega))
  have e4 := (a4 e3).1
  rw [e3, e4] at c
  rw [tpL, hg]
  exact c
theorem fnTaped {rs : List Rw} (hl : (rs.length : Int) ≤ 9223372036854775807) : FnC (En Try.prog g) 10 [.pv (.lst 4 (rs.map rawE)), .pv (.int .i64 30)] (.tup [dskA (tpL ((rs.take 8).map recP) ((rs.take 8).map recP).length) [], .pv (.lst 1 (((rs.take 8).map recP).map byP)), .pv (.bool true)]) [] := by
  have hE := EnOk g
  have c1 := fnDNew (g := g) (n := 30) (by omega) (by omega)
  have c2 := fnSome (g := g) (rs := rs) (m := 8) (by omega) hl
  rw [show (8 : Int).toNat = 8 from rfl] at c2
  have hl5 : (rs.take 8).length ≤ 8 := by rw [List.length_take]; omega
  generalize rs.take 8 = R at *
  have hrc : ∀ r ∈ R.map recP, rOk r ∧ r.length ≤ 61 := fun r hr => by
    obtain ⟨x, _, rfl⟩ := List.mem_map.1 hr
    exact ⟨recP_ok x, (recP_len x).2⟩
  have hst := fun (j : Nat) (r : List Int) (hr : (R.map recP)[j]? = some r) => tp_step (g := g) hrc (by simpa using hl5) hr
  have h0 : tpL (R.map recP) 0 = List.replicate 30 zer := rfl
  have hln : (R.map recP).length = R.length := by simp
  have hat' : ∀ j r, R[j]? = some r → (R.map recP)[j]? = some (recP r) := fun j r h => by rw [List.getElem?_map, h]; rfl
  have htk : ∀ j r, R[j]? = some r → (R.map recP).take (j + 1) = (R.map recP).take j ++ [recP r] := fun j r h => by rw [List.take_add_one, hat' j r h]; rfl
  have htl : ∀ j, j ≤ R.length → ((R.map recP).take j).length = j := fun j hj => by rw [List.length_take, hln]; omega
  have hfin : (R.map recP).take R.length = R.map recP := List.take_of_length_le (by rw [hln]; exact Nat.le_refl _)
  rw [hln]
  generalize R.map recP = rc at *
  rw [← h0] at c1
  refine FnC.of Try.func10 rfl rfl rfl rfl ?_
  repeat (first | refine Run.seq ?_ | refine Run.skip ?_ | refine Run.block ?_)
  refine Run.region ?_
  refine O.alloc hE 4 T26 rfl rfl rfl ?_
  refine O.assign rfl rfl ?_
  refine O.assign rfl rfl ?_
  refine O.nil ?_
  try refine Run.keep [0, 1, 4, 5, 6, 7, 8, 9, 10, 12, 13, 14, 15, 16, 25, 26, 27, 28, 51] rfl rfl ?_
  repeat (first | refine Run.seq ?_ | refine Run.skip ?_ | refine Run.block ?_)
  refine Run.region ?_
  refine O.move rfl rfl ?_
  refine O.callE c1 rfl (by first | rfl | simp [closed, men3, mens2_app, mens2_ints, mens2, men2, men1, mens1_app, mens1_ints, mens1]) (by first | rfl | simp [d2, ds1_ints, ds1_app, ds1, d1, ds0_app, ds0_ints, ds0, d0]) rfl ?_
  refine O.move rfl rfl ?_
  refine O.extract rfl rfl rfl ?_
  refine O.extract rfl rfl rfl ?_
  refine O.alloc hE 7 T26 rfl rfl rfl ?_
  refine O.store hE T26 rfl rfl rfl rfl rfl rfl ?_
  refine O.assign rfl rfl ?_
  refine O.nil ?_
  try refine Run.keep [0, 1, 4, 5, 6, 7, 8, 9, 10, 12, 13, 14, 15, 16, 25, 26, 27, 28, 51] rfl rfl ?_
  repeat (first | refine Run.seq ?_ | refine Run.skip ?_ | refine Run.block ?_)
  refine Run.region ?_
  refine O.move rfl rfl ?_
  first | refine O.cmp rfl rfl rfl (by first | exact decide_eq_true (by omega) | exact decide_eq_false (by omega)) rfl ?_ | refine O.cmp rfl rfl rfl rfl rfl ?_
  refine O.assign rfl rfl ?_
  refine O.nil ?_
  try refine Run.keep [0, 1, 4, 5, 6, 7, 8, 9, 10, 12, 13, 14, 15, 16, 25, 26, 27, 28, 51] rfl rfl ?_
  repeat (first | refine Run.seq ?_ | refine Run.skip ?_ | refine Run.block ?_)
  refine Run.region ?_
  refine O.assign rfl rfl ?_
  refine O.nil ?_
  try refine Run.keep [0, 1, 4, 5, 6, 7, 8, 9, 10, 12, 13, 14, 15, 16, 25, 26, 27, 28, 51] rfl rfl ?_
  repeat (first | refine Run.seq ?_ | refine Run.skip ?_ | refine Run.block ?_)
  refine Run.region ?_
  refine O.move rfl rfl ?_
  refine O.callE c2 rfl (by first | rfl | simp [closed, men3, mens2_app, mens2_ints, mens2, men2, men1, mens1_app, mens1_ints, mens1]) (by first | rfl | simp [d2, ds1_ints, ds1_app, ds1, d1, ds0_app, ds0_ints, ds0, d0]) rfl ?_
  first | refine O.lenN hE T37 rfl rfl rfl (by first | exact newest_pv | exact newest_gl rfl rfl | trivial) lenC rfl ?_ | refine O.lenLst hE T37 rfl rfl rfl (by first | exact newest_pv | exact newest_gl rfl rfl | trivial) rfl ?_
  refine O.move rfl rfl ?_
  refine O.nil ?_
  try refine Run.keep [0, 1, 4, 5, 6, 7, 8, 9, 10, 12, 13, 14, 15, 16, 25, 26, 27, 28, 51] rfl rfl ?_
  refine Run.pre (SLe.nilBox (t := 10) (b := 110) (e := 32) (sz := 1) rfl rfl rfl rfl) ?_
  repeat (first | refine Run.seq ?_ | refine Run.skip ?_)
  refine Run.block ?_
  refine Run.loopInv (ι := Nat) (fun j => j ≤ R.length) (fun j => ⟨69, [(4, .ptr 4 0), (7, .ptr 7 0), (9, .pv (.bool true)), (10, .gl 110 (rc.take j).length), (25, .pv (.lst 4 (R.map rawE))), (26, .pv (.int .i64 R.length)), (27, .pv (.int .i64 (j : Int)))], [(110, .lst 32 1 ((rc.take j).map byP)), (7, .var [.pv (.lst 32 ((tpL rc j).map secE)), .pv (.lst 33 ([].map putE))]), (4, .var [.pv .nil, .pv .nil])]⟩) (fun j => R.length - j) 0 (Nat.zero_le _) ?_ ?_
  ·
    exact SLe.drop (by repeat (first | exact TmIn.nil | refine TmIn.cons rfl ?_)) (by repeat (first | exact BxIn.nil | refine BxIn.cons rfl ?_)) rfl rfl
  rintro j hj ih
  by_cases hlt : j < R.length
  ·
    obtain ⟨r, hv⟩ : ∃ r, R[j]? = some r := ⟨_, List.getElem?_eq_getElem hlt⟩
    have hat : (R.map rawE)[(j : Int).toNat]? = some (rawE r) := by rw [Int.toNat_natCast, List.getElem?_map, hv]; rfl
    have cs := hst j _ (hat' j r hv)
    have hk := htk j r hv
    have hTl := htl j hj
    obtain ⟨B, hB⟩ : ∃ B, recP r = B := ⟨_, rfl⟩
    have hBl : B.length ≤ 61 := by rw [← hB]; exact (recP_len r).2
    rw [hB] at cs hk
    obtain ⟨rk, ra, rb, rt⟩ := r
    unfold recP at hB
    dsimp only at hB
    obtain ⟨M, hM⟩ : ∃ M : Int, (if (60 : Int) < (rt.size : Int) then (60 : Int) else (rt.size : Int)) = M := ⟨_, rfl⟩
    have hM0 : 0 ≤ M ∧ M ≤ 60 ∧ M ≤ rt.size := by rw [← hM]; split <;> omega
    rw [hM] at hB
    have hqs : (rt.extract 0 M.toNat).size ≤ 60 := by rw [ByteArray.size_extract]; omega
    generalize hQ : rt.extract 0 M.toNat = Q at *
    have hzs : [PV.int .u8 (IntKind.u8.wrap ra)] ++ byts Q = B.map (PV.int .u8) := by rw [← hB, byts_btn]; rfl
    have hbl : (byts Q).length ≤ 60 := by rw [byts_btn, List.length_map, btn_len]; exact hqs
    generalize rc.take j = T at *
    repeat (first | refine Run.seq ?_ | refine Run.skip ?_ | refine Run.block ?_)
    refine Run.region ?_
    first | refine O.cmp rfl rfl rfl (by first | exact decide_eq_true (by omega) | exact decide_eq_false (by omega)) rfl ?_ | refine O.cmp rfl rfl rfl rfl rfl ?_
    refine O.nil ?_
    try refine Run.keep [0, 1, 4, 5, 6, 7, 8, 9, 10, 12, 13, 14, 15, 16, 25, 26, 27, 28, 51] rfl rfl ?_
    repeat (first | refine Run.seq ?_ | refine Run.skip ?_)
    first | refine Run.condT rfl rfl ?_ | refine Run.condF rfl rfl ?_ | refine Run.condT rfl (by assumption) ?_ | refine Run.condF rfl (by assumption) ?_
    repeat (first | refine Run.seq ?_ | refine Run.skip ?_ | refine Run.block ?_)
    refine Run.region ?_
    refine O.index hE T37 rfl T59 rfl rfl newest_pv rfl (by omega) hat rfl rfl rfl ?_
    refine O.load hE T59 rfl rfl rfl rfl ?_
    refine O.alloc hE 12 T59 rfl rfl rfl ?_
    refine O.store hE T59 rfl rfl rfl rfl rfl rfl ?_
    refine O.nil ?_
    try refine Run.keep [0, 1, 4, 5, 6, 7, 8, 9, 10, 12, 13, 14, 15, 16, 25, 26, 27, 28, 51] rfl rfl ?_
    repeat (first | refine Run.seq ?_ | refine Run.skip ?_ | refine Run.block ?_)
    refine Run.draw mixed rfl ?_
    refine D.field hE L59 rfl rfl rfl rfl ?_
    first | refine D.loadS hE T3 rfl rfl rfl (by rfl) rfl ?_ | refine D.loadE hE T3 rfl rfl (by rfl) rfl ?_ | refine D.load hE T3 rfl rfl rfl rfl ?_
    refine D.conv hE T3 T5 rfl rfl rfl ?_
    refine D.lit hE 34 [] T32 rfl T5 rfl rfl (xs := [PV.int .u8 (IntKind.u8.wrap ra)]) rfl BxIn.nil rfl rfl rfl rfl rfl ?_
    refine D.field hE L59 rfl rfl rfl rfl ?_
    first | refine D.loadS hE T9 rfl rfl rfl (by rfl) rfl ?_ | refine D.loadE hE T9 rfl rfl (by rfl) rfl ?_ | refine D.load hE T9 rfl rfl rfl rfl ?_
    refine D.field hE L59 rfl rfl rfl rfl ?_
    first | refine D.loadS hE T9 rfl rfl rfl (by rfl) rfl ?_ | refine D.loadE hE T9 rfl rfl (by rfl) rfl ?_ | refine D.load hE T9 rfl rfl rfl rfl ?_
    refine D.lenStr hE T9 rfl rfl rfl ?_
    refine D.minI (r := M) rfl rfl hM rfl ?_
    refine D.sliceS hE T9 rfl rfl rfl rfl (by omega) (by omega) hM0.2.2 hQ rfl ?_
    refine D.appStr hE T32 rfl T5 T9 rfl rfl rfl rfl rfl rfl rfl rfl (by kernel_rfl) rfl rfl (by simp only [List.length_singleton]; show (1 + _) * 1 ≤ _; omega) (by unfold maxLen; simp only [List.length_singleton]; omega) hzs rfl ?_
    refine D.assign rfl rfl ?_
    refine Dr.nil ?_
    refine ⟨rfl, ?_⟩
    try refine Run.keep [0, 1, 4, 5, 6, 7, 8, 9, 10, 12, 13, 14, 15, 16, 25, 26, 27, 28, 51] rfl rfl ?_
    refine Run.pre (s1 := ⟨69, [(4, .ptr 4 0), (7, .ptr 7 0), (9, .pv (.bool true)), (10, .gl 110 T.length), (13, .pv (byP B)), (25, .pv (.lst 4 (R.map rawE))), (26, .pv (.int .i64 R.length)), (27, .pv (.int .i64 (j : Int)))], [(110, .lst 32 1 (T.map byP)), (7, .var [.pv (.lst 32 ((tpL rc j).map secE)), .pv (.lst 33 ([].map putE))]), (4, .var [.pv .nil, .pv .nil])]⟩) ?_ ?_
    ·
      refine SLe.by rfl ?_ ?_ rfl rfl
      · refine TmLe.cons (AVle.of_eq rfl) (TmLe.cons (AVle.of_eq rfl) (TmLe.cons (AVle.of_eq rfl) (TmLe.cons (AVle.of_eq rfl) (TmLe.cons (AVle.lst _ _ _ (lstOf_glV (e := 5) rfl rfl)) (TmLe.cons (AVle.of_eq rfl) (TmLe.cons (AVle.of_eq rfl) (TmLe.cons (AVle.of_eq rfl) .nil)))))))
      · exact BxsLe.cons rfl (.refl _) (BxsLe.cons rfl (.refl _) (BxsLe.cons rfl (.refl _) .nil))
    repeat (first | refine Run.seq ?_ | refine Run.skip ?_ | refine Run.block ?_)
    refine Run.region ?_
    refine O.load hE T26 rfl rfl rfl rfl ?_
    refine O.move rfl rfl ?_
    refine O.callE cs rfl (by first | rfl | simp [closed, men3, mens2_app, mens2_ints, mens2, men2, men1, mens1_app, mens1_ints, mens1]) (by first | rfl | simp [d2, ds1_ints, ds1_app, ds1, d1, ds0_app, ds0_ints, ds0, d0]) rfl ?_
    refine O.move rfl rfl ?_
    refine O.extract rfl rfl rfl ?_
    refine O.extract rfl rfl rfl ?_
    refine O.extract rfl rfl rfl ?_
    refine O.alloc hE 14 T26 rfl rfl rfl ?_
    refine O.store hE T26 rfl rfl rfl rfl rfl rfl ?_
    refine O.assign rfl rfl ?_
    refine O.assign rfl rfl ?_
    refine O.nil ?_
    try refine Run.keep [0, 1, 4, 5, 6, 7, 8, 9, 10, 12, 13, 14, 15, 16, 25, 26, 27, 28, 51] rfl rfl ?_
    repeat (first | refine Run.seq ?_ | refine Run.skip ?_ | refine Run.block ?_)
    refine Run.region ?_
    refine O.move rfl rfl ?_
    first | refine O.cmp rfl rfl rfl (by first | exact decide_eq_true (by omega) | exact decide_eq_false (by omega)) rfl ?_ | refine O.cmp rfl rfl rfl rfl rfl ?_
    refine O.nil ?_
    try refine Run.keep [0, 1, 4, 5, 6, 7, 8, 9, 10, 12, 13, 14, 15, 16, 25, 26, 27, 28, 51] rfl rfl ?_
    repeat (first | refine Run.seq ?_ | refine Run.skip ?_)
    first | refine Run.condT rfl rfl ?_ | refine Run.condF rfl rfl ?_ | refine Run.condT rfl (by assumption) ?_ | refine Run.condF rfl (by assumption) ?_
    repeat (first | refine Run.seq ?_ | refine Run.skip ?_ | refine Run.block ?_)
    refine Run.region ?_
    refine O.move rfl rfl ?_
    refine O.move rfl rfl ?_
    first | (refine O.yes rfl rfl (by first | rfl | assumption) ?_; refine O.move rfl rfl ?_) | refine O.no rfl rfl rfl rfl ?_
    first | (refine O.yes rfl rfl (by first | rfl | assumption) ?_; first | refine O.cmp rfl rfl rfl (by first | exact decide_eq_true (by omega) | exact decide_eq_false (by omega)) rfl ?_ | refine O.cmp rfl rfl rfl rfl rfl ?_) | refine O.no rfl rfl rfl rfl ?_
    refine O.pick rfl rfl rfl rfl rfl ?_
    refine O.move rfl rfl ?_
    first | (refine O.yes rfl rfl (by first | rfl | assumption) ?_; refine O.move rfl rfl ?_) | refine O.no rfl rfl rfl rfl ?_
    refine O.pick rfl rfl rfl rfl rfl ?_
    refine O.assign rfl rfl ?_
    refine O.nil ?_
    try refine Run.keep [0, 1, 4, 5, 6, 7, 8, 9, 10, 12, 13, 14, 15, 16, 25, 26, 27, 28, 51] rfl rfl ?_
    repeat (first | refine Run.seq ?_ | refine Run.skip ?_ | refine Run.block ?_)
    refine Run.draw mixed rfl ?_
    refine D.load hE T26 rfl rfl rfl rfl ?_
    refine D.move rfl rfl ?_
    refine D.move rfl rfl ?_
    refine D.litV (xs := [B].map byP) hE T33 rfl T32 rfl rfl rfl rfl rfl rfl rfl ?_
    refine D.appM byP (q := T) (r := [B]) hE T33 rfl T32 rfl rfl rfl rfl rfl newest_pv rfl rfl rfl rfl (by simp; omega) (by simp [maxLen]; omega) rfl ?_
    refine D.store hE T26 rfl rfl rfl rfl rfl rfl ?_
    refine D.assign rfl rfl ?_
    refine Dr.nil ?_
    refine ⟨rfl, ?_⟩
    try refine Run.keep [0, 1, 4, 5, 6, 7, 8, 9, 10, 12, 13, 14, 15, 16, 25, 26, 27, 28, 51] rfl rfl ?_
    repeat (first | refine Run.seq ?_ | refine Run.skip ?_ | refine Run.block ?_)
    refine Run.region ?_
    first | refine O.ar rfl rfl rfl (by exact wrap_i64 (by omega) (by omega)) rfl ?_ | refine O.ar rfl rfl rfl rfl rfl ?_
    refine O.move rfl rfl ?_
    refine O.nil ?_
    try refine Run.keep [0, 1, 4, 5, 6, 7, 8, 9, 10, 12, 13, 14, 15, 16, 25, 26, 27, 28, 51] rfl rfl ?_
    refine ih (j + 1) _ ?_ (by omega) (by omega)
    rw [hk]
    exact SLe.drop (by repeat (first | exact TmIn.nil | refine TmIn.cons rfl ?_)) (by repeat (first | exact BxIn.nil | refine BxIn.cons rfl ?_)) rfl rfl
  obtain rfl : j = R.length := by omega
  rw [hfin]
  repeat (first | refine Run.seq ?_ | refine Run.skip ?_ | refine Run.block ?_)
  refine Run.region ?_
  first | refine O.cmp rfl rfl rfl (by first | exact decide_eq_true (by omega) | exact decide_eq_false (by omega)) rfl ?_ | refine O.cmp rfl rfl rfl rfl rfl ?_
  refine O.nil ?_
  try refine Run.keep [0, 1, 4, 5, 6, 7, 8, 9, 10, 12, 13, 14, 15, 16, 25, 26, 27, 28, 51] rfl rfl ?_
  repeat (first | refine Run.seq ?_ | refine Run.skip ?_)
  first | refine Run.condT rfl rfl ?_ | refine Run.condF rfl rfl ?_ | refine Run.condT rfl (by assumption) ?_ | refine Run.condF rfl (by assumption) ?_
  refine Run.exit ?_
  repeat (first | refine thenR_exit ?_ | refine roundR_exit ?_ | refine blockR_exit ?_ | refine blockR_pass rfl ?_)
  refine Run.pre (s1 := ⟨69, [(4, .ptr 4 0), (7, .ptr 7 0), (9, .pv (.bool true)), (10, .pv (.lst 1 (rc.map byP)))], [(7, .var [.pv (.lst 32 ((tpL rc R.length).map secE)), .pv (.lst 33 ([].map putE))]), (4, .var [.pv .nil, .pv .nil])]⟩) ?_ ?_
  ·
    refine SLe.by rfl ?_ ?_ rfl rfl
    · exact TmLe.cons (AVle.of_eq rfl) (TmLe.cons (AVle.of_eq rfl) (TmLe.cons (AVle.of_eq rfl) (TmLe.cons (AVle.lst _ _ _ (lstOf_glV rfl (by simp))) .nil)))
    · exact BxsLe.cons rfl (.refl _) (BxsLe.cons rfl (.refl _) .nil)
  repeat (first | refine Run.seq ?_ | refine Run.skip ?_ | refine Run.block ?_)
  refine Run.region ?_
  refine O.load hE T26 rfl rfl rfl rfl ?_
  refine O.move rfl rfl ?_
  refine O.move rfl rfl ?_
  refine O.store hE T26 rfl rfl rfl rfl rfl rfl ?_
  refine O.assign rfl rfl ?_
  refine O.assign rfl rfl ?_
  refine O.nil ?_
  try refine Run.keep [0, 1, 4, 5, 6, 7, 8, 9, 10, 12, 13, 14, 15, 16, 25, 26, 27, 28, 51] rfl rfl ?_
  (repeat (first | refine Run.seq ?_ | refine Run.skip ?_)); (try refine Run.ret ?_); first | exact Ends.flat hE (.inr rfl) rfl rfl (AVle.of_eq rfl) rfl | exact Ends.flat hE (.inl rfl) rfl rfl (AVle.of_eq rfl) rfl
end Go.Proofs.Ytalcpfpjkfpmbaa.Vm
