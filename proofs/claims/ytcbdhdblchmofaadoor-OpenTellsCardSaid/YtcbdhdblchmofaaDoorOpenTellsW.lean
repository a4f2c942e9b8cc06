/- OpenTells: what frames are taken apart to, and the law's walk. Conditions: the table of steps has 64 words. -/
import Derived.Test.YtcbdhdblchmofaaDoorSlotC
namespace Go.Proofs.YtcbdhdblchmofaaDoor.Vm
open Go Go.RowKit
set_option linter.unusedVariables false
set_option linter.unusedSimpArgs false
attribute [local irreducible] Ops Dr Run digP
variable {g : Nat → Option (List PV)}
section
variable {E : Env} {n : Nat} {tm : List (Nat × AV)} {bx : List (Nat × Box)} {ops : Array Oper} {l : List Oper} {d : Tmp} {ty : TypeId} {pos : String} {after : Array Edge}
theorem D.str {Θ : List Rec → St → Prop} {sr t e : TypeId} {y : Operand} {i ie it : TI} {sz : Nat} {xs : List PV} {ns : List Int} {b : ByteArray} (hE : E.Ok) (ht : E.T sr = some i) (hk : i.desc = .slc e) (he : E.T e = some ie) (hek : ie.desc = .int .u8) (htt : E.T t = some it) (htk : it.desc = .strg) (hy : evO E tm y = some (.pv (.lst sz xs))) (hns : nums xs = some ns) (hb : strOfNums ns = b)
    (hd : Nat.blt d n = true) (h : Dr E.P E.g ops l ⟨n, (d, .pv (.str b)) :: tm, bx⟩ (fun rs => Θ (⟨rtOf y (.pv (.lst sz xs)), [], [], some d, .pv (.str b), []⟩ :: rs))) : Dr E.P E.g ops (⟨some d, .convert sr t y, ty, pos, after, none⟩ :: l) ⟨n, tm, bx⟩ Θ :=
  D.of (rt := rtOf y (.pv (.lst sz xs))) (rb := []) (rt_now hy) none_met hd (fun s hs _ hd' => OpOk.strOf (s := s) (hE.t _ _ ht) hk (hE.t _ _ he) hek (hE.t _ _ htt) htk (evO_ok (n := s.n) (bx := s.bx) (rt_ev hy hs)) rfl hns hb (fun t ht => by obtain rfl := Option.some.inj ht; exact hd')) h
theorem D.strNe {Θ : List Rec → St → Prop} {t t' : TypeId} {y z : Operand} {s s' : ByteArray} {c : Bool} (hy : evO E tm y = some (.pv (.str s))) (hz : evO E tm z = some (.pv (.str s'))) (hc : (!(s.toList == s'.toList)) = c) (hd : Nat.blt d n = true) (h : Dr E.P E.g ops l ⟨n, (d, .pv (.bool c)) :: tm, bx⟩ (fun rs => Θ (⟨rtOf y (.pv (.str s)) ++ rtOf z (.pv (.str s')), [], [], some d, .pv (.bool c), []⟩ :: rs))) :
    Dr E.P E.g ops (⟨some d, .binOp .neq t y z t', ty, pos, after, none⟩ :: l) ⟨n, tm, bx⟩ Θ := by
  subst hc
  exact D.bin (v := .bool (!(s.toList == s'.toList))) hy hz rfl rfl rfl rfl hd h
end
theorem fnSameLists {ps : List (List Int)} (hl : (ps.length : Int) ≤ 1000000) : FnC (En Tryd.prog g) 30 [.pv (.lst 1 (ps.map bys)), .pv (.lst 1 (ps.map bys))] (.pv (.bool true)) [] := by
  have hE := EnOk g
  have hlen : (ps.map bys).length = ps.length := by simp
  refine FnC.of Tryd.func30 rfl rfl rfl rfl ?_
  repeat (first | refine Run.seq ?_ | refine Run.skip ?_ | refine Run.block ?_)
  refine Run.region ?_
  refine O.assign rfl rfl ?_
  refine O.nil ?_
  try refine Run.keep [0, 1, 4, 5, 10, 12, 13, 14, 26] rfl rfl ?_
  repeat (first | refine Run.seq ?_ | refine Run.skip ?_ | refine Run.block ?_)
  refine Run.region ?_
  refine O.move rfl rfl ?_
  first | refine O.lenN hE T41 rfl rfl rfl (by first | exact newest_pv | exact newest_gl rfl rfl | trivial) lenC rfl ?_ | refine O.lenLst hE T41 rfl rfl rfl (by first | exact newest_pv | exact newest_gl rfl rfl | trivial) rfl ?_
  refine O.move rfl rfl ?_
  first | refine O.lenN hE T41 rfl rfl rfl (by first | exact newest_pv | exact newest_gl rfl rfl | trivial) lenC rfl ?_ | refine O.lenLst hE T41 rfl rfl rfl (by first | exact newest_pv | exact newest_gl rfl rfl | trivial) rfl ?_
  first | refine O.cmp rfl rfl rfl (by first | exact decide_eq_true (by omega) | exact decide_eq_false (by omega)) rfl ?_ | refine O.cmp rfl rfl rfl rfl rfl ?_
  refine O.nil ?_
  try refine Run.keep [0, 1, 4, 5, 10, 12, 13, 14, 26] rfl rfl ?_
  repeat (first | refine Run.seq ?_ | refine Run.skip ?_)
  first | refine Run.condT rfl rfl ?_ | refine Run.condF rfl rfl ?_ | refine Run.condT rfl (by assumption) ?_ | refine Run.condF rfl (by assumption) ?_
  repeat (first | refine Run.seq ?_ | refine Run.skip ?_ | refine Run.block ?_)
  refine Run.region ?_
  refine O.move rfl rfl ?_
  first | refine O.lenN hE T41 rfl rfl rfl (by first | exact newest_pv | exact newest_gl rfl rfl | trivial) lenC rfl ?_ | refine O.lenLst hE T41 rfl rfl rfl (by first | exact newest_pv | exact newest_gl rfl rfl | trivial) rfl ?_
  refine O.move rfl rfl ?_
  refine O.nil ?_
  try refine Run.keep [0, 1, 4, 5, 10, 12, 13, 14, 26] rfl rfl ?_
  repeat (first | refine Run.seq ?_ | refine Run.skip ?_)
  refine Run.block ?_
  refine Run.loopInv (ι := Nat) (fun j => j ≤ ps.length) (fun j => ⟨28, [(0, .pv (.lst 1 (ps.map bys))), (1, .pv (.lst 1 (ps.map bys))), (4, .pv (.bool false)), (12, .pv (.int .i64 ps.length)), (13, .pv (.int .i64 j))], []⟩) (fun j => ps.length - j) 0 (by omega) ?_ ?_
  ·
    refine SLe.eqv (by repeat (first | exact TmIn.nil | refine TmIn.cons rfl ?_)) (by repeat (first | exact BxIn.nil | refine BxIn.cons rfl ?_)) rfl
  rintro j hj ih
  by_cases hlt : j < ps.length
  ·
    have hat : (ps.map bys)[(j : Int).toNat]? = some (bys (ps.getD j [])) := by rw [Int.toNat_natCast]; exact ps_at hlt
    generalize ps.getD j [] = P at *
    have hs : (!((strOfNums P).toList == (strOfNums P).toList)) = false := by rw [beq_self_eq_true]; rfl
    repeat (first | refine Run.seq ?_ | refine Run.skip ?_ | refine Run.block ?_)
    refine Run.region ?_
    first | refine O.cmp rfl rfl rfl (by first | exact decide_eq_true (by omega) | exact decide_eq_false (by omega)) rfl ?_ | refine O.cmp rfl rfl rfl rfl rfl ?_
    refine O.nil ?_
    try refine Run.keep [0, 1, 4, 5, 10, 12, 13, 14, 26] rfl rfl ?_
    repeat (first | refine Run.seq ?_ | refine Run.skip ?_)
    first | refine Run.condT rfl rfl ?_ | refine Run.condF rfl rfl ?_ | refine Run.condT rfl (by assumption) ?_ | refine Run.condF rfl (by assumption) ?_
    repeat (first | refine Run.seq ?_ | refine Run.skip ?_ | refine Run.block ?_)
    refine Run.region ?_
    refine O.move rfl rfl ?_
    refine O.assign rfl rfl ?_
    refine O.nil ?_
    try refine Run.keep [0, 1, 4, 5, 10, 12, 13, 14, 26] rfl rfl ?_
    repeat (first | refine Run.seq ?_ | refine Run.skip ?_ | refine Run.block ?_)
    refine Run.draw mixed rfl ?_
    refine D.move rfl rfl ?_
    refine D.move rfl rfl ?_
    refine D.index hE T41 rfl T27 rfl rfl newest_pv rfl (by omega) hat rfl rfl rfl ?_
    first | refine D.loadS hE T27 rfl rfl rfl (by rfl) rfl ?_ | refine D.loadE hE T27 rfl rfl (by rfl) rfl ?_ | refine D.load hE T27 rfl rfl rfl rfl ?_
    refine D.str hE T27 rfl T5 rfl T9 rfl rfl (nums_bytes _) rfl rfl ?_
    refine D.move rfl rfl ?_
    refine D.move rfl rfl ?_
    refine D.index hE T41 rfl T27 rfl rfl newest_pv rfl (by omega) hat rfl rfl rfl ?_
    first | refine D.loadS hE T27 rfl rfl rfl (by rfl) rfl ?_ | refine D.loadE hE T27 rfl rfl (by rfl) rfl ?_ | refine D.load hE T27 rfl rfl rfl rfl ?_
    refine D.str hE T27 rfl T5 rfl T9 rfl rfl (nums_bytes _) rfl rfl ?_
    refine D.strNe rfl rfl hs rfl ?_
    refine Dr.nil ?_
    refine ⟨rfl, ?_⟩
    try refine Run.keep [0, 1, 4, 5, 10, 12, 13, 14, 26] rfl rfl ?_
    repeat (first | refine Run.seq ?_ | refine Run.skip ?_)
    first | refine Run.condT rfl rfl ?_ | refine Run.condF rfl rfl ?_ | refine Run.condT rfl (by assumption) ?_ | refine Run.condF rfl (by assumption) ?_
    repeat (first | refine Run.seq ?_ | refine Run.skip ?_ | refine Run.block ?_)
    refine Run.region ?_
    first | refine O.ar rfl rfl rfl (by exact wrap_i64 (by omega) (by omega)) rfl ?_ | refine O.ar rfl rfl rfl rfl rfl ?_
    refine O.move rfl rfl ?_
    refine O.nil ?_
    try refine Run.keep [0, 1, 4, 5, 10, 12, 13, 14, 26] rfl rfl ?_
    exact ih (j + 1) _ (by refine SLe.eqv (by repeat (first | exact TmIn.nil | refine TmIn.cons rfl ?_)) (by repeat (first | exact BxIn.nil | refine BxIn.cons rfl ?_)) rfl) (by omega) (by omega)
  repeat (first | refine Run.seq ?_ | refine Run.skip ?_ | refine Run.block ?_)
  refine Run.region ?_
  first | refine O.cmp rfl rfl rfl (by first | exact decide_eq_true (by omega) | exact decide_eq_false (by omega)) rfl ?_ | refine O.cmp rfl rfl rfl rfl rfl ?_
  refine O.nil ?_
  try refine Run.keep [0, 1, 4, 5, 10, 12, 13, 14, 26] rfl rfl ?_
  repeat (first | refine Run.seq ?_ | refine Run.skip ?_)
  first | refine Run.condT rfl rfl ?_ | refine Run.condF rfl rfl ?_ | refine Run.condT rfl (by assumption) ?_ | refine Run.condF rfl (by assumption) ?_
  refine Run.exit ?_
  repeat (first | refine thenR_exit ?_ | refine roundR_exit ?_ | refine blockR_exit ?_ | refine blockR_pass rfl ?_)
  repeat (first | refine Run.seq ?_ | refine Run.skip ?_ | refine Run.block ?_)
  refine Run.region ?_
  refine O.assign rfl rfl ?_
  refine O.nil ?_
  try refine Run.keep [0, 1, 4, 5, 10, 12, 13, 14, 26] rfl rfl ?_
  (repeat (first | refine Run.seq ?_ | refine Run.skip ?_)); (try refine Run.ret ?_); first | exact Ends.flat hE (.inr rfl) rfl rfl (AVle.of_eq rfl) rfl | exact Ends.flat hE (.inl rfl) rfl rfl (AVle.of_eq rfl) rfl
/-- The part that a raw thing makes. -/
def partE (r : Rw) : List Int := btl (r.s.extract 0 (if (30 : Int) < (r.s.size : Int) then (30 : Int) else (r.s.size : Int)).toNat)
theorem partE_len (r : Rw) : (partE r).length ≤ 30 := by
  unfold partE
  rw [btl_len, ByteArray.size_extract]
  split <;> omega
def partsE (rs : List Rw) : List (List Int) := (rs.take 8).map partE
theorem fnPartsOf {rs : List Rw} (hl : (rs.length : Int) ≤ 9223372036854775807) : FnC (En Tryd.prog g) 27 [.pv (.lst 4 (rs.map rawE))] (.pv (.lst 1 ((partsE rs).map bys))) [] := by
  have hE := EnOk g
  have c1 := fnSome (g := g) (rs := rs) (m := 8) (by omega) hl
  unfold partsE
  rw [show (8 : Int).toNat = 8 from rfl] at c1
  have hl20 : (rs.take 8).length ≤ 8 := by rw [List.length_take]; omega
  generalize rs.take 8 = R at *
  have hlen : (R.map rawE).length = R.length := by simp
  refine FnC.of Tryd.func27 rfl rfl rfl rfl ?_
  repeat (first | refine Run.seq ?_ | refine Run.skip ?_ | refine Run.block ?_)
  refine Run.region ?_
  refine O.assign rfl rfl ?_
  refine O.nil ?_
  try refine Run.keep [0, 2, 3, 5, 7, 8, 9, 10] rfl rfl ?_
  repeat (first | refine Run.seq ?_ | refine Run.skip ?_ | refine Run.block ?_)
  refine Run.region ?_
  refine O.assign rfl rfl ?_
  refine O.nil ?_
  try refine Run.keep [0, 2, 3, 5, 7, 8, 9, 10] rfl rfl ?_
  repeat (first | refine Run.seq ?_ | refine Run.skip ?_ | refine Run.block ?_)
  refine Run.region ?_
  refine O.move rfl rfl ?_
  refine O.callE c1 rfl (by first | rfl | simp [closed, men3, mens2_app, mens2_ints, mens2, men2, men1, mens1_app, mens1_ints, mens1]) (by first | rfl | simp [d2, ds1_ints, ds1_app, ds1, d1, ds0_app, ds0_ints, ds0, d0]) rfl ?_
  first | refine O.lenN hE T60 rfl rfl rfl (by first | exact newest_pv | exact newest_gl rfl rfl | trivial) lenC rfl ?_ | refine O.lenLst hE T60 rfl rfl rfl (by first | exact newest_pv | exact newest_gl rfl rfl | trivial) rfl ?_
  refine O.move rfl rfl ?_
  refine O.nil ?_
  try refine Run.keep [0, 2, 3, 5, 7, 8, 9, 10] rfl rfl ?_
  refine Run.pre (SLe.nilBox (t := 3) (b := 57) (e := 27) (sz := 1) rfl rfl rfl rfl) ?_
  repeat (first | refine Run.seq ?_ | refine Run.skip ?_)
  refine Run.block ?_
  refine Run.loopInv (ι := Nat) (fun j => j ≤ R.length)
    (fun j => ⟨26, [(3, .gl 57 ((R.take j).map partE).length), (7, .pv (.lst 4 (R.map rawE))), (8, .pv (.int .i64 R.length)), (9, .pv (.int .i64 j))], [(57, .lst 27 1 (((R.take j).map partE).map bys))]⟩) (fun j => R.length - j) 0 (by omega) ?_ ?_
  ·
    refine SLe.eqv (by repeat (first | exact TmIn.nil | refine TmIn.cons rfl ?_)) (by repeat (first | exact BxIn.nil | refine BxIn.cons rfl ?_)) rfl
  rintro j hj ih
  by_cases hlt : j < R.length
  ·
    obtain ⟨r, hr⟩ : ∃ r, R[j] = r := ⟨_, rfl⟩
    have hat : (R.map rawE)[(j : Int).toNat]? = some (rawE r) := by
      rw [Int.toNat_natCast, List.getElem?_map, List.getElem?_eq_getElem hlt, hr]; rfl
    have htk : (R.take (j + 1)).map partE = (R.take j).map partE ++ [partE r] := by
      rw [List.take_add_one, List.getElem?_eq_getElem hlt, hr]; simp
    have hQ : ((R.take j).map partE).length = j := by simp; omega
    obtain ⟨M, hM⟩ : ∃ M : Int, (if (30 : Int) < (r.s.size : Int) then (30 : Int) else (r.s.size : Int)) = M := ⟨_, rfl⟩
    have hM0 : 0 ≤ M ∧ M ≤ r.s.size ∧ M ≤ 30 := by split at hM <;> omega
    have hb : btl (r.s.extract (0 : Int).toNat M.toNat) = partE r := by unfold partE; rw [hM]; rfl
    have hsz : (r.s.extract (0 : Int).toNat M.toNat).size ≤ maxLen := by rw [ByteArray.size_extract]; unfold maxLen; omega
    repeat (first | refine Run.seq ?_ | refine Run.skip ?_ | refine Run.block ?_)
    refine Run.region ?_
    first | refine O.cmp rfl rfl rfl (by first | exact decide_eq_true (by omega) | exact decide_eq_false (by omega)) rfl ?_ | refine O.cmp rfl rfl rfl rfl rfl ?_
    refine O.nil ?_
    try refine Run.keep [0, 2, 3, 5, 7, 8, 9, 10] rfl rfl ?_
    repeat (first | refine Run.seq ?_ | refine Run.skip ?_)
    first | refine Run.condT rfl rfl ?_ | refine Run.condF rfl rfl ?_ | refine Run.condT rfl (by assumption) ?_ | refine Run.condF rfl (by assumption) ?_
    repeat (first | refine Run.seq ?_ | refine Run.skip ?_ | refine Run.block ?_)
    refine Run.region ?_
    refine O.index hE T60 rfl T49 rfl rfl newest_pv rfl (by omega) hat rfl rfl rfl ?_
    refine O.load hE T49 rfl rfl rfl rfl ?_
    refine O.alloc hE 5 T49 rfl rfl rfl ?_
    refine O.store hE T49 rfl rfl rfl rfl rfl rfl ?_
    refine O.nil ?_
    try refine Run.keep [0, 2, 3, 5, 7, 8, 9, 10] rfl rfl ?_
    repeat (first | refine Run.seq ?_ | refine Run.skip ?_ | refine Run.block ?_)
    refine Run.region ?_
    refine O.move rfl rfl ?_
    refine O.field hE L49 rfl rfl rfl rfl ?_
    first | refine O.loadS hE T9 rfl rfl rfl (by rfl) rfl ?_ | refine O.loadE hE T9 rfl rfl (by rfl) rfl ?_ | refine O.load hE T9 rfl rfl rfl rfl ?_
    refine O.field hE L49 rfl rfl rfl rfl ?_
    first | refine O.loadS hE T9 rfl rfl rfl (by rfl) rfl ?_ | refine O.loadE hE T9 rfl rfl (by rfl) rfl ?_ | refine O.load hE T9 rfl rfl rfl rfl ?_
    refine O.lenStr hE T9 rfl rfl rfl ?_
    refine O.minI rfl rfl hM rfl ?_
    refine O.sliceS hE T9 rfl rfl rfl rfl (by omega) (by omega) (by omega) rfl rfl ?_
    refine O.bytesB hE T9 T27 rfl T5 rfl rfl hb hsz rfl ?_
    refine O.litV hE T41 rfl T27 rfl rfl rfl rfl rfl rfl rfl ?_
    refine O.appM bys (r := [partE r]) hE T41 rfl T27 rfl rfl rfl rfl rfl newest_pv rfl rfl rfl rfl (by simp; omega) (by simp [maxLen]; omega) rfl ?_
    refine O.assign rfl rfl ?_
    refine O.nil ?_
    try refine Run.keep [0, 2, 3, 5, 7, 8, 9, 10] rfl rfl ?_
    repeat (first | refine Run.seq ?_ | refine Run.skip ?_ | refine Run.block ?_)
    refine Run.region ?_
    first | refine O.ar rfl rfl rfl (by exact wrap_i64 (by omega) (by omega)) rfl ?_ | refine O.ar rfl rfl rfl rfl rfl ?_
    refine O.move rfl rfl ?_
    refine O.nil ?_
    try refine Run.keep [0, 2, 3, 5, 7, 8, 9, 10] rfl rfl ?_
    refine ih (j + 1) _ ?_ (by omega) (by omega)
    rw [htk]
    exact SLe.drop (by repeat (first | exact TmIn.nil | refine TmIn.cons rfl ?_)) (by repeat (first | exact BxIn.nil | refine BxIn.cons rfl ?_)) rfl rfl
  have hj' : j = R.length := by omega
  rw [hj', List.take_length]
  repeat (first | refine Run.seq ?_ | refine Run.skip ?_ | refine Run.block ?_)
  refine Run.region ?_
  first | refine O.cmp rfl rfl rfl (by first | exact decide_eq_true (by omega) | exact decide_eq_false (by omega)) rfl ?_ | refine O.cmp rfl rfl rfl rfl rfl ?_
  refine O.nil ?_
  try refine Run.keep [0, 2, 3, 5, 7, 8, 9, 10] rfl rfl ?_
  repeat (first | refine Run.seq ?_ | refine Run.skip ?_)
  first | refine Run.condT rfl rfl ?_ | refine Run.condF rfl rfl ?_ | refine Run.condT rfl (by assumption) ?_ | refine Run.condF rfl (by assumption) ?_
  refine Run.exit ?_
  repeat (first | refine thenR_exit ?_ | refine roundR_exit ?_ | refine blockR_exit ?_ | refine blockR_pass rfl ?_)
  repeat (first | refine Run.seq ?_ | refine Run.skip ?_ | refine Run.block ?_)
  refine Run.region ?_
  refine O.move rfl rfl ?_
  refine O.assign rfl rfl ?_
  refine O.nil ?_
  try refine Run.keep [0, 2, 3, 5, 7, 8, 9, 10] rfl rfl ?_
  refine Run.ret ?_
  exact Ends.of hE (.inr rfl) rfl rfl (SLe.res0 (AVle.lst _ _ _ (lstOf_gl rfl (by simp))) rfl)
theorem wrap8 (z : Int) : IntKind.u8.wrap z = z % 256 := by
  unfold IntKind.wrap
  simp only [IntKind.bits, IntKind.signed, Bool.false_and, Bool.false_eq_true, if_false]
  rw [show (2 : Int) ^ 8 = 256 by decide]
theorem fdiv2 (z : Int) (n : Nat) : z.fdiv (2 ^ n) = z / 2 ^ n := Int.fdiv_eq_ediv_of_nonneg _ (Int.le_of_lt (Int.pow_pos (by decide)))
theorem fourL_is (n : Int) : fourL n = [n / 16777216 % 256, n / 65536 % 256, n / 256 % 256, n % 256] := by
  unfold fourL
  simp only [wrap8, fdiv2]
  rfl
/-- Parts, each behind its length. -/
def flatL (ps : List (List Int)) : List Int := (ps.map fun p => fourL p.length ++ p).flatten
theorem flatL_cons {p : List Int} {ps : List (List Int)} (h : p.length ≤ 30) : flatL (p :: ps) = 0 :: 0 :: 0 :: (p.length : Int) :: (p ++ flatL ps) := by
  have e : fourL p.length = [0, 0, 0, (p.length : Int)] := by
    rw [fourL_is]
    congr 1
    · omega
    · congr 1
      · omega
      · congr 1
        · omega
        · congr 1; omega
  simp only [flatL, List.map_cons, List.flatten_cons, e, List.cons_append, List.nil_append]
theorem or_len {n : Nat} (h : n ≤ 30) : bitI .or .i64 0 (IntKind.i64.wrap (n : Int)) = some (n : Int) := by
  have key : ∀ y : Fin 31, bitI .or .i64 0 (IntKind.i64.wrap ((y.val : Nat) : Int)) = some ((y.val : Nat) : Int) := by decide +kernel
  exact key ⟨n, by omega⟩
theorem fnParse {tag : Int} {ps : List (List Int)} (ht : 1 ≤ tag ∧ tag ≤ 9) (hn : ps.length ≤ 8) (hp : ∀ p ∈ ps, p.length ≤ 30) : FnC (En Tryd.prog g) 29 [.pv (bys (frameL tag ps))] (.tup [.pv (.int .i64 tag), .pv (.lst 1 (ps.map bys)), .pv (.int .i64 0)]) [] := by
  have hE := EnOk g
  have hf : frameL tag ps = tag :: (ps.length : Int) :: flatL ps := by
    unfold frameL flatL
    rw [wrap8, wrap8, show tag % 256 = tag by omega, show (ps.length : Int) % 256 = ps.length by omega]
    rfl
  have hfl : ∀ qs : List (List Int), (∀ p ∈ qs, p.length ≤ 30) → (flatL qs).length ≤ 34 * qs.length := by
    intro qs
    induction qs with
    | nil => intro _; simp [flatL]
    | cons q qs ih =>
      intro h
      have h1 := h q (by simp)
      have h2 := ih fun p hp => h p (by simp [hp])
      rw [flatL_cons h1]
      simp only [List.length_cons, List.length_append]
      omega
  have hfl0 := hfl ps hp
  rw [hf]
  have hlf : ((tag :: (ps.length : Int) :: flatL ps).map (PV.int .u8)).length = (flatL ps).length + 2 := by simp
  have hla : (tag :: (ps.length : Int) :: flatL ps).length = (flatL ps).length + 2 := rfl
  have hw : IntKind.i64.wrap tag = tag := wrap_i64 (by omega) (by omega)
  have hwn : IntKind.i64.wrap (ps.length : Int) = ps.length := wrap_i64 (by omega) (by omega)
  obtain ⟨N, hN⟩ : ∃ N, ps.length = N := ⟨_, rfl⟩
  have hs2 : (((tag :: (ps.length : Int) :: flatL ps).map (PV.int .u8)).take (((tag :: (ps.length : Int) :: flatL ps).map (PV.int .u8)).length : Int).toNat).drop (2 : Int).toNat = (flatL ps).map (PV.int .u8) := by rw [Int.toNat_natCast, List.take_length]; rfl
  refine FnC.of Tryd.func29 rfl rfl rfl rfl ?_
  repeat (first | refine Run.seq ?_ | refine Run.skip ?_ | refine Run.block ?_)
  refine Run.region ?_
  refine O.assign rfl rfl ?_
  refine O.assign rfl rfl ?_
  refine O.assign rfl rfl ?_
  refine O.nil ?_
  try refine Run.keep [0, 2, 3, 4, 5, 6, 7, 8, 11, 14, 24, 27, 33, 36, 37, 38, 41, 69, 84] rfl rfl ?_
  repeat (first | refine Run.seq ?_ | refine Run.skip ?_ | refine Run.block ?_)
  refine Run.region ?_
  refine O.move rfl rfl ?_
  first | refine O.lenN hE T27 rfl rfl rfl (by first | exact newest_pv | exact newest_gl rfl rfl | trivial) lenC rfl ?_ | refine O.lenLst hE T27 rfl rfl rfl (by first | exact newest_pv | exact newest_gl rfl rfl | trivial) rfl ?_
  first | refine O.cmp rfl rfl rfl (by first | exact decide_eq_true (by omega) | exact decide_eq_false (by omega)) rfl ?_ | refine O.cmp rfl rfl rfl rfl rfl ?_
  refine O.nil ?_
  try refine Run.keep [0, 2, 3, 4, 5, 6, 7, 8, 11, 14, 24, 27, 33, 36, 37, 38, 41, 69, 84] rfl rfl ?_
  repeat (first | refine Run.seq ?_ | refine Run.skip ?_)
  first | refine Run.condT rfl rfl ?_ | refine Run.condF rfl rfl ?_ | refine Run.condT rfl (by assumption) ?_ | refine Run.condF rfl (by assumption) ?_
  repeat (first | refine Run.seq ?_ | refine Run.skip ?_ | refine Run.block ?_)
  refine Run.region ?_
  refine O.move rfl rfl ?_
  first | refine O.lenN hE T27 rfl rfl rfl (by first | exact newest_pv | exact newest_gl rfl rfl | trivial) lenC rfl ?_ | refine O.lenLst hE T27 rfl rfl rfl (by first | exact newest_pv | exact newest_gl rfl rfl | trivial) rfl ?_
  first | refine O.cmp rfl rfl rfl (by first | exact decide_eq_true (by omega) | exact decide_eq_false (by omega)) rfl ?_ | refine O.cmp rfl rfl rfl rfl rfl ?_
  refine O.nil ?_
  try refine Run.keep [0, 2, 3, 4, 5, 6, 7, 8, 11, 14, 24, 27, 33, 36, 37, 38, 41, 69, 84] rfl rfl ?_
  repeat (first | refine Run.seq ?_ | refine Run.skip ?_)
  first | refine Run.condT rfl rfl ?_ | refine Run.condF rfl rfl ?_ | refine Run.condT rfl (by assumption) ?_ | refine Run.condF rfl (by assumption) ?_
  repeat (first | refine Run.seq ?_ | refine Run.skip ?_ | refine Run.block ?_)
  refine Run.region ?_
  refine O.move rfl rfl ?_
  refine O.index hE T27 rfl T5 rfl rfl newest_pv rfl (by omega) rfl rfl rfl rfl ?_
  first | refine O.loadS hE T5 rfl rfl rfl (by rfl) rfl ?_ | refine O.loadE hE T5 rfl rfl (by rfl) rfl ?_ | refine O.load hE T5 rfl rfl rfl rfl ?_
  refine O.conv hE T5 T3 rfl rfl rfl ?_; rw [hw]
  refine O.assign rfl rfl ?_
  refine O.nil ?_
  try refine Run.keep [0, 2, 3, 4, 5, 6, 7, 8, 11, 14, 24, 27, 33, 36, 37, 38, 41, 69, 84] rfl rfl ?_
  repeat (first | refine Run.seq ?_ | refine Run.skip ?_ | refine Run.block ?_)
  refine Run.region ?_
  refine O.move rfl rfl ?_
  first | refine O.cmp rfl rfl rfl (by first | exact decide_eq_true (by omega) | exact decide_eq_false (by omega)) rfl ?_ | refine O.cmp rfl rfl rfl rfl rfl ?_
  refine O.move rfl rfl ?_
  first | (refine O.yes rfl rfl (by first | rfl | assumption) ?_; refine O.move rfl rfl ?_) | refine O.no rfl rfl rfl rfl ?_
  first | (refine O.yes rfl rfl (by first | rfl | assumption) ?_; first | refine O.cmp rfl rfl rfl (by first | exact decide_eq_true (by omega) | exact decide_eq_false (by omega)) rfl ?_ | refine O.cmp rfl rfl rfl rfl rfl ?_) | refine O.no rfl rfl rfl rfl ?_
  refine O.pick rfl rfl rfl rfl rfl ?_
  refine O.nil ?_
  try refine Run.keep [0, 2, 3, 4, 5, 6, 7, 8, 11, 14, 24, 27, 33, 36, 37, 38, 41, 69, 84] rfl rfl ?_
  repeat (first | refine Run.seq ?_ | refine Run.skip ?_)
  first | refine Run.condT rfl rfl ?_ | refine Run.condF rfl rfl ?_ | refine Run.condT rfl (by assumption) ?_ | refine Run.condF rfl (by assumption) ?_
  repeat (first | refine Run.seq ?_ | refine Run.skip ?_ | refine Run.block ?_)
  refine Run.region ?_
  refine O.move rfl rfl ?_
  first | refine O.lenN hE T27 rfl rfl rfl (by first | exact newest_pv | exact newest_gl rfl rfl | trivial) lenC rfl ?_ | refine O.lenLst hE T27 rfl rfl rfl (by first | exact newest_pv | exact newest_gl rfl rfl | trivial) rfl ?_
  first | refine O.cmp rfl rfl rfl (by first | exact decide_eq_true (by omega) | exact decide_eq_false (by omega)) rfl ?_ | refine O.cmp rfl rfl rfl rfl rfl ?_
  refine O.nil ?_
  try refine Run.keep [0, 2, 3, 4, 5, 6, 7, 8, 11, 14, 24, 27, 33, 36, 37, 38, 41, 69, 84] rfl rfl ?_
  repeat (first | refine Run.seq ?_ | refine Run.skip ?_)
  first | refine Run.condT rfl rfl ?_ | refine Run.condF rfl rfl ?_ | refine Run.condT rfl (by assumption) ?_ | refine Run.condF rfl (by assumption) ?_
  repeat (first | refine Run.seq ?_ | refine Run.skip ?_ | refine Run.block ?_)
  refine Run.region ?_
  refine O.move rfl rfl ?_
  refine O.index hE T27 rfl T5 rfl rfl newest_pv rfl (by omega) rfl rfl rfl rfl ?_
  first | refine O.loadS hE T5 rfl rfl rfl (by rfl) rfl ?_ | refine O.loadE hE T5 rfl rfl (by rfl) rfl ?_ | refine O.load hE T5 rfl rfl rfl rfl ?_
  refine O.conv hE T5 T3 rfl rfl rfl ?_; rw [hwn]
  refine O.assign rfl rfl ?_
  refine O.nil ?_
  try refine Run.keep [0, 2, 3, 4, 5, 6, 7, 8, 11, 14, 24, 27, 33, 36, 37, 38, 41, 69, 84] rfl rfl ?_
  repeat (first | refine Run.seq ?_ | refine Run.skip ?_ | refine Run.block ?_)
  refine Run.region ?_
  refine O.move rfl rfl ?_
  first | refine O.cmp rfl rfl rfl (by first | exact decide_eq_true (by omega) | exact decide_eq_false (by omega)) rfl ?_ | refine O.cmp rfl rfl rfl rfl rfl ?_
  refine O.nil ?_
  try refine Run.keep [0, 2, 3, 4, 5, 6, 7, 8, 11, 14, 24, 27, 33, 36, 37, 38, 41, 69, 84] rfl rfl ?_
  repeat (first | refine Run.seq ?_ | refine Run.skip ?_)
  first | refine Run.condT rfl rfl ?_ | refine Run.condF rfl rfl ?_ | refine Run.condT rfl (by assumption) ?_ | refine Run.condF rfl (by assumption) ?_
  repeat (first | refine Run.seq ?_ | refine Run.skip ?_ | refine Run.block ?_)
  refine Run.region ?_
  refine O.move rfl rfl ?_
  refine O.slice hE T27 rfl T5 rfl rfl newest_pv rfl rfl rfl (by omega) (by rw [hlf]; omega) (by exact Int.le_refl _) hs2 rfl ?_
  refine O.assign rfl rfl ?_
  refine O.nil ?_
  try refine Run.keep [0, 2, 3, 4, 5, 6, 7, 8, 11, 14, 24, 27, 33, 36, 37, 38, 41, 69, 84] rfl rfl ?_
  repeat (first | refine Run.seq ?_ | refine Run.skip ?_ | refine Run.block ?_)
  refine Run.region ?_
  refine O.assign rfl rfl ?_
  refine O.nil ?_
  try refine Run.keep [0, 2, 3, 4, 5, 6, 7, 8, 11, 14, 24, 27, 33, 36, 37, 38, 41, 69, 84] rfl rfl ?_
  refine Run.pre (SLe.nilBox (t := 7) (b := 57) (e := 27) (sz := 1) rfl rfl rfl rfl) ?_
  repeat (first | refine Run.seq ?_ | refine Run.skip ?_ | refine Run.block ?_)
  refine Run.region ?_
  refine O.move rfl rfl ?_
  refine O.move rfl rfl ?_
  refine O.nil ?_
  try refine Run.keep [0, 2, 3, 4, 5, 6, 7, 8, 11, 14, 24, 27, 33, 36, 37, 38, 41, 69, 84] rfl rfl ?_
  repeat (first | refine Run.seq ?_ | refine Run.skip ?_)
  refine Run.block ?_
  refine Run.loopInv (ι := Nat) (fun j => j ≤ ps.length)
    (fun j => ⟨87, [(0, .pv (bys (flatL (ps.drop j)))), (2, .pv (.int .i64 0)), (3, .pv .nil), (4, .pv (.int .i64 0)), (5, .pv (.int .i64 tag)), (7, .gl 57 (ps.take j).length), (36, .pv (.int .i64 ps.length)), (37, .pv (.int .i64 j))], [(57, .lst 27 1 ((ps.take j).map bys))]⟩) (fun j => ps.length - j) 0 (by omega) ?_ ?_
  ·
    refine SLe.eqv (by repeat (first | exact TmIn.nil | refine TmIn.cons rfl ?_)) (by repeat (first | exact BxIn.nil | refine BxIn.cons rfl ?_)) rfl
  rintro j hj ih
  by_cases hlt : j < ps.length
  ·
    obtain ⟨p, hpj⟩ : ∃ p, ps[j] = p := ⟨_, rfl⟩
    have hpl : p.length ≤ 30 := by rw [← hpj]; exact hp _ (List.getElem_mem hlt)
    have hdr : flatL (ps.drop j) = 0 :: 0 :: 0 :: (p.length : Int) :: (p ++ flatL (ps.drop (j + 1))) := by rw [List.drop_eq_getElem_cons hlt, hpj, flatL_cons hpl]
    have htk : ps.take (j + 1) = ps.take j ++ [p] := by rw [List.take_add_one, List.getElem?_eq_getElem hlt, hpj]; rfl
    have hQ : (ps.take j).length = j := by simp; omega
    have hor := or_len hpl
    have hrl := hfl (ps.drop (j + 1)) (fun q hq => hp q (List.mem_of_mem_drop hq))
    have hdl : (ps.drop (j + 1)).length = ps.length - (j + 1) := by rw [List.length_drop]
    obtain ⟨F, hF⟩ : ∃ F, flatL (ps.drop (j + 1)) = F := ⟨_, rfl⟩
    rw [hF] at hdr hrl
    rw [hdr]
    have hl1 : ((0 :: 0 :: 0 :: (p.length : Int) :: (p ++ F)).map (PV.int .u8)).length = p.length + F.length + 4 := by simp
    have hl2 : ((p ++ F).map (PV.int .u8)).length = p.length + F.length := by simp
    have hl3 : (0 :: 0 :: 0 :: (p.length : Int) :: (p ++ F)).length = p.length + F.length + 4 := by simp
    have hl4 : (p ++ F).length = p.length + F.length := by simp
    have hs4 : (((0 :: 0 :: 0 :: (p.length : Int) :: (p ++ F)).map (PV.int .u8)).take (((0 :: 0 :: 0 :: (p.length : Int) :: (p ++ F)).map (PV.int .u8)).length : Int).toNat).drop (4 : Int).toNat = (p ++ F).map (PV.int .u8) := by rw [Int.toNat_natCast, List.take_length]; rfl
    have hsk : (((p ++ F).map (PV.int .u8)).take (p.length : Int).toNat).drop (0 : Int).toNat = p.map (PV.int .u8) := by
      rw [Int.toNat_natCast, List.map_append, show p.length = (p.map (PV.int .u8)).length by simp, List.take_left]; rfl
    have hsd : (((p ++ F).map (PV.int .u8)).take (((p ++ F).map (PV.int .u8)).length : Int).toNat).drop (p.length : Int).toNat = F.map (PV.int .u8) := by
      rw [Int.toNat_natCast, Int.toNat_natCast, List.take_length, List.map_append, show p.length = (p.map (PV.int .u8)).length by simp, List.drop_left]
    repeat (first | refine Run.seq ?_ | refine Run.skip ?_ | refine Run.block ?_)
    refine Run.region ?_
    first | refine O.cmp rfl rfl rfl (by first | exact decide_eq_true (by omega) | exact decide_eq_false (by omega)) rfl ?_ | refine O.cmp rfl rfl rfl rfl rfl ?_
    refine O.nil ?_
    try refine Run.keep [0, 2, 3, 4, 5, 6, 7, 8, 11, 14, 24, 27, 33, 36, 37, 38, 41, 69, 84] rfl rfl ?_
    repeat (first | refine Run.seq ?_ | refine Run.skip ?_)
    first | refine Run.condT rfl rfl ?_ | refine Run.condF rfl rfl ?_ | refine Run.condT rfl (by assumption) ?_ | refine Run.condF rfl (by assumption) ?_
    repeat (first | refine Run.seq ?_ | refine Run.skip ?_ | refine Run.block ?_)
    refine Run.region ?_
    refine O.move rfl rfl ?_
    first | refine O.lenN hE T27 rfl rfl rfl (by first | exact newest_pv | exact newest_gl rfl rfl | trivial) lenC rfl ?_ | refine O.lenLst hE T27 rfl rfl rfl (by first | exact newest_pv | exact newest_gl rfl rfl | trivial) rfl ?_
    first | refine O.cmp rfl rfl rfl (by first | exact decide_eq_true (by omega) | exact decide_eq_false (by omega)) rfl ?_ | refine O.cmp rfl rfl rfl rfl rfl ?_
    refine O.nil ?_
    try refine Run.keep [0, 2, 3, 4, 5, 6, 7, 8, 11, 14, 24, 27, 33, 36, 37, 38, 41, 69, 84] rfl rfl ?_
    repeat (first | refine Run.seq ?_ | refine Run.skip ?_)
    first | refine Run.condT rfl rfl ?_ | refine Run.condF rfl rfl ?_ | refine Run.condT rfl (by assumption) ?_ | refine Run.condF rfl (by assumption) ?_
    repeat (first | refine Run.seq ?_ | refine Run.skip ?_ | refine Run.block ?_)
    refine Run.draw mixed rfl ?_
    refine D.move rfl rfl ?_
    refine D.index hE T27 rfl T5 rfl rfl newest_pv rfl (by omega) rfl rfl rfl rfl ?_
    first | refine D.loadS hE T5 rfl rfl rfl (by rfl) rfl ?_ | refine D.loadE hE T5 rfl rfl (by rfl) rfl ?_ | refine D.load hE T5 rfl rfl rfl rfl ?_
    refine D.conv hE T5 T3 rfl rfl rfl ?_
    refine D.shl rfl rfl (by first | omega | (exact wrap_nn rfl _)) rfl ?_
    refine D.move rfl rfl ?_
    refine D.index hE T27 rfl T5 rfl rfl newest_pv rfl (by omega) rfl rfl rfl rfl ?_
    first | refine D.loadS hE T5 rfl rfl rfl (by rfl) rfl ?_ | refine D.loadE hE T5 rfl rfl (by rfl) rfl ?_ | refine D.load hE T5 rfl rfl rfl rfl ?_
    refine D.conv hE T5 T3 rfl rfl rfl ?_
    refine D.shl rfl rfl (by first | omega | (exact wrap_nn rfl _)) rfl ?_
    refine D.bit (r := 0) rfl rfl (by decide) rfl ?_
    refine D.move rfl rfl ?_
    refine D.index hE T27 rfl T5 rfl rfl newest_pv rfl (by omega) rfl rfl rfl rfl ?_
    first | refine D.loadS hE T5 rfl rfl rfl (by rfl) rfl ?_ | refine D.loadE hE T5 rfl rfl (by rfl) rfl ?_ | refine D.load hE T5 rfl rfl rfl rfl ?_
    refine D.conv hE T5 T3 rfl rfl rfl ?_
    refine D.shl rfl rfl (by first | omega | (exact wrap_nn rfl _)) rfl ?_
    refine D.bit (r := 0) rfl rfl (by decide) rfl ?_
    refine D.move rfl rfl ?_
    refine D.index hE T27 rfl T5 rfl rfl newest_pv rfl (by omega) rfl rfl rfl rfl ?_
    first | refine D.loadS hE T5 rfl rfl rfl (by rfl) rfl ?_ | refine D.loadE hE T5 rfl rfl (by rfl) rfl ?_ | refine D.load hE T5 rfl rfl rfl rfl ?_
    refine D.conv hE T5 T3 rfl rfl rfl ?_
    refine D.bit rfl rfl hor rfl ?_
    refine D.assign rfl rfl ?_
    refine Dr.nil ?_
    refine ⟨rfl, ?_⟩
    try refine Run.keep [0, 2, 3, 4, 5, 6, 7, 8, 11, 14, 24, 27, 33, 36, 37, 38, 41, 69, 84] rfl rfl ?_
    repeat (first | refine Run.seq ?_ | refine Run.skip ?_ | refine Run.block ?_)
    refine Run.region ?_
    refine O.move rfl rfl ?_
    refine O.slice hE T27 rfl T5 rfl rfl newest_pv rfl rfl rfl (by omega) (by rw [hl1]; omega) (by exact Int.le_refl _) hs4 rfl ?_
    refine O.assign rfl rfl ?_
    refine O.nil ?_
    try refine Run.keep [0, 2, 3, 4, 5, 6, 7, 8, 11, 14, 24, 27, 33, 36, 37, 38, 41, 69, 84] rfl rfl ?_
    repeat (first | refine Run.seq ?_ | refine Run.skip ?_ | refine Run.block ?_)
    refine Run.region ?_
    refine O.move rfl rfl ?_
    first | refine O.lenN hE T27 rfl rfl rfl (by first | exact newest_pv | exact newest_gl rfl rfl | trivial) lenC rfl ?_ | refine O.lenLst hE T27 rfl rfl rfl (by first | exact newest_pv | exact newest_gl rfl rfl | trivial) rfl ?_
    refine O.move rfl rfl ?_
    first | refine O.cmp rfl rfl rfl (by first | exact decide_eq_true (by omega) | exact decide_eq_false (by omega)) rfl ?_ | refine O.cmp rfl rfl rfl rfl rfl ?_
    refine O.nil ?_
    try refine Run.keep [0, 2, 3, 4, 5, 6, 7, 8, 11, 14, 24, 27, 33, 36, 37, 38, 41, 69, 84] rfl rfl ?_
    repeat (first | refine Run.seq ?_ | refine Run.skip ?_)
    first | refine Run.condT rfl rfl ?_ | refine Run.condF rfl rfl ?_ | refine Run.condT rfl (by assumption) ?_ | refine Run.condF rfl (by assumption) ?_
    repeat (first | refine Run.seq ?_ | refine Run.skip ?_ | refine Run.block ?_)
    refine Run.region ?_
    refine O.move rfl rfl ?_
    refine O.lit hE 32 T27 rfl T5 rfl rfl rfl rfl rfl rfl rfl rfl ?_
    refine O.move rfl rfl ?_
    refine O.move rfl rfl ?_
    refine O.slice hE T27 rfl T5 rfl rfl newest_pv rfl rfl rfl (by omega) (by omega) (by rw [hl2]; omega) hsk rfl ?_
    refine O.appM (PV.int .u8) (q := []) (r := p) hE T27 rfl T5 rfl rfl rfl rfl rfl newest_pv rfl rfl rfl rfl (by simp; omega) (by simp [maxLen]; omega) rfl ?_
    refine O.litV hE T41 rfl T27 rfl rfl (elems_gl (q := p) rfl rfl rfl) rfl rfl rfl rfl ?_
    refine O.appM bys (r := [p]) hE T41 rfl T27 rfl rfl rfl rfl rfl newest_pv rfl rfl rfl rfl (by simp; omega) (by simp [maxLen]; omega) rfl ?_
    refine O.assign rfl rfl ?_
    refine O.nil ?_
    try refine Run.keep [0, 2, 3, 4, 5, 6, 7, 8, 11, 14, 24, 27, 33, 36, 37, 38, 41, 69, 84] rfl rfl ?_
    repeat (first | refine Run.seq ?_ | refine Run.skip ?_ | refine Run.block ?_)
    refine Run.region ?_
    refine O.move rfl rfl ?_
    refine O.move rfl rfl ?_
    refine O.slice hE T27 rfl T5 rfl rfl newest_pv rfl rfl rfl (by omega) (by rw [hl2]; omega) (by exact Int.le_refl _) hsd rfl ?_
    refine O.assign rfl rfl ?_
    refine O.nil ?_
    try refine Run.keep [0, 2, 3, 4, 5, 6, 7, 8, 11, 14, 24, 27, 33, 36, 37, 38, 41, 69, 84] rfl rfl ?_
    repeat (first | refine Run.seq ?_ | refine Run.skip ?_ | refine Run.block ?_)
    refine Run.region ?_
    first | refine O.ar rfl rfl rfl (by exact wrap_i64 (by omega) (by omega)) rfl ?_ | refine O.ar rfl rfl rfl rfl rfl ?_
    refine O.move rfl rfl ?_
    refine O.nil ?_
    try refine Run.keep [0, 2, 3, 4, 5, 6, 7, 8, 11, 14, 24, 27, 33, 36, 37, 38, 41, 69, 84] rfl rfl ?_
    refine ih (j + 1) _ ?_ (by omega) (by omega)
    rw [htk, hF]
    exact SLe.drop (by repeat (first | exact TmIn.nil | refine TmIn.cons rfl ?_)) (by repeat (first | exact BxIn.nil | refine BxIn.cons rfl ?_)) rfl rfl
  have hj' : j = ps.length := by omega
  have hd0 : flatL (ps.drop j) = [] := by rw [hj', List.drop_length]; rfl
  rw [hd0]
  rw [hj', List.take_length]
  repeat (first | refine Run.seq ?_ | refine Run.skip ?_ | refine Run.block ?_)
  refine Run.region ?_
  first | refine O.cmp rfl rfl rfl (by first | exact decide_eq_true (by omega) | exact decide_eq_false (by omega)) rfl ?_ | refine O.cmp rfl rfl rfl rfl rfl ?_
  refine O.nil ?_
  try refine Run.keep [0, 2, 3, 4, 5, 6, 7, 8, 11, 14, 24, 27, 33, 36, 37, 38, 41, 69, 84] rfl rfl ?_
  repeat (first | refine Run.seq ?_ | refine Run.skip ?_)
  first | refine Run.condT rfl rfl ?_ | refine Run.condF rfl rfl ?_ | refine Run.condT rfl (by assumption) ?_ | refine Run.condF rfl (by assumption) ?_
  refine Run.exit ?_
  repeat (first | refine thenR_exit ?_ | refine roundR_exit ?_ | refine blockR_exit ?_ | refine blockR_pass rfl ?_)
  repeat (first | refine Run.seq ?_ | refine Run.skip ?_ | refine Run.block ?_)
  refine Run.region ?_
  refine O.move rfl rfl ?_
  first | refine O.lenN hE T27 rfl rfl rfl (by first | exact newest_pv | exact newest_gl rfl rfl | trivial) lenC rfl ?_ | refine O.lenLst hE T27 rfl rfl rfl (by first | exact newest_pv | exact newest_gl rfl rfl | trivial) rfl ?_
  first | refine O.cmp rfl rfl rfl (by first | exact decide_eq_true (by omega) | exact decide_eq_false (by omega)) rfl ?_ | refine O.cmp rfl rfl rfl rfl rfl ?_
  refine O.nil ?_
  try refine Run.keep [0, 2, 3, 4, 5, 6, 7, 8, 11, 14, 24, 27, 33, 36, 37, 38, 41, 69, 84] rfl rfl ?_
  repeat (first | refine Run.seq ?_ | refine Run.skip ?_)
  first | refine Run.condT rfl rfl ?_ | refine Run.condF rfl rfl ?_ | refine Run.condT rfl (by assumption) ?_ | refine Run.condF rfl (by assumption) ?_
  repeat (first | refine Run.seq ?_ | refine Run.skip ?_ | refine Run.block ?_)
  refine Run.region ?_
  refine O.move rfl rfl ?_
  refine O.move rfl rfl ?_
  refine O.assign rfl rfl ?_
  refine O.assign rfl rfl ?_
  refine O.assign rfl rfl ?_
  refine O.nil ?_
  try refine Run.keep [0, 2, 3, 4, 5, 6, 7, 8, 11, 14, 24, 27, 33, 36, 37, 38, 41, 69, 84] rfl rfl ?_
  refine Run.ret ?_
  exact Ends.of hE (.inr rfl) rfl rfl (SLe.res0 (AVle.tups (.cons (AVle.of_eq rfl) (.cons (AVle.lst _ _ _ (lstOf_gl rfl (by simp))) (.cons (AVle.of_eq rfl) .nil)))) rfl)
theorem fnOpenTells {T : List Int → List Int → List Int} (hT : Feeds g T) {rs : List Rw} (n0 : Int) (hl : (rs.length : Int) ≤ 9223372036854775807) : FnC (En Tryd.prog g) 9 [.pv (.int .i64 n0), .pv (.lst 4 (rs.map rawE))] (.pv (.bool true)) [] := by
  have hE := EnOk g
  have c1 := fnPick (g := g) (a := n0) (m := 9) (by omega) (by omega)
  have ht : 0 ≤ n0 % 9 ∧ n0 % 9 < 9 := by omega
  generalize n0 % 9 = z at *
  obtain ⟨tag, htag⟩ : ∃ tag : Int, 1 + z = tag := ⟨_, rfl⟩
  have ht1 : 1 ≤ tag ∧ tag ≤ 9 := by omega
  have hw : IntKind.i64.wrap (1 + z) = tag := by rw [wrap_i64 (by omega) (by omega), htag]
  have c2 := fnPartsOf (g := g) hl
  have hp : ∀ p ∈ partsE rs, p.length ≤ 30 := fun p hp => by
    obtain ⟨r, _, rfl⟩ := List.mem_map.1 hp
    exact partE_len r
  have hn : (partsE rs).length ≤ 8 := by unfold partsE; rw [List.length_map, List.length_take]; omega
  generalize partsE rs = ps at *
  have htot : ∀ qs : List (List Int), (∀ p ∈ qs, p.length ≤ 30) → tot qs ≤ 34 * qs.length := by
    intro qs
    induction qs with
    | nil => intro _; simp [tot]
    | cons q qs ih =>
      intro h
      have h1 := h q (by simp)
      have h2 := ih fun p hp => h p (by simp [hp])
      simp only [tot, List.length_cons]
      omega
  have hto := htot ps hp
  have hparts : Parts ps := ⟨hn, fun p hq => by have := hp p hq; omega, by omega⟩
  have c3 := fnDigest hT (mode := 2) (tag := tag) (ps := ps) (.inr rfl) ht1 hparts
  have c4 := fnDigest hT (mode := 1) (tag := tag) (ps := ps) (.inl rfl) ht1 hparts
  have c5 := fnParse (g := g) ht1 hn hp
  have c6 := fnSameLists (g := g) (ps := ps) (by omega)
  have h2 : digP T 2 tag ps = frameL tag ps := by unfold digP; rw [if_pos rfl]
  have h3 : (digP T 1 tag ps).length = 32 := by unfold digP; rw [if_neg (by decide)]; exact sumP_len _
  rw [← h2] at c5
  generalize digP T 2 tag ps = A at *
  generalize digP T 1 tag ps = B at *
  have hBm : (B.map (PV.int .u8)).length = B.length := by simp
  refine FnC.of Tryd.func9 rfl rfl rfl rfl ?_
  repeat (first | refine Run.seq ?_ | refine Run.skip ?_ | refine Run.block ?_)
  refine Run.region ?_
  refine O.assign rfl rfl ?_
  refine O.nil ?_
  try refine Run.keep [0, 1, 4, 5, 6, 7, 8, 9, 10, 11, 12, 13] rfl rfl ?_
  repeat (first | refine Run.seq ?_ | refine Run.skip ?_ | refine Run.block ?_)
  refine Run.region ?_
  refine O.move rfl rfl ?_
  refine O.callE c1 rfl (by first | rfl | simp [closed, men3, mens2_app, mens2_ints, mens2, men2, men1, mens1_app, mens1_ints, mens1]) (by first | rfl | simp [d2, ds1_ints, ds1_app, ds1, d1, ds0_app, ds0_ints, ds0, d0]) rfl ?_
  refine O.ar rfl rfl rfl hw rfl ?_
  refine O.move rfl rfl ?_
  refine O.callE c2 rfl (by first | rfl | simp [closed, men3, mens2_app, mens2_ints, mens2, men2, men1, mens1_app, mens1_ints, mens1]) (by first | rfl | simp [d2, ds1_ints, ds1_app, ds1, d1, ds0_app, ds0_ints, ds0, d0]) rfl ?_
  refine O.assign rfl rfl ?_
  refine O.assign rfl rfl ?_
  refine O.nil ?_
  try refine Run.keep [0, 1, 4, 5, 6, 7, 8, 9, 10, 11, 12, 13] rfl rfl ?_
  repeat (first | refine Run.seq ?_ | refine Run.skip ?_ | refine Run.block ?_)
  refine Run.region ?_
  refine O.move rfl rfl ?_
  refine O.move rfl rfl ?_
  refine O.callE c3 rfl (by first | rfl | simp [closed, men3, mens2_app, mens2_ints, mens2, men2, men1, mens1_app, mens1_ints, mens1]) (by first | rfl | simp [d2, ds1_ints, ds1_app, ds1, d1, ds0_app, ds0_ints, ds0, d0]) rfl ?_
  refine O.move rfl rfl ?_
  refine O.extract rfl rfl rfl ?_
  refine O.extract rfl rfl rfl ?_
  refine O.assign rfl rfl ?_
  refine O.assign rfl rfl ?_
  refine O.nil ?_
  try refine Run.keep [0, 1, 4, 5, 6, 7, 8, 9, 10, 11, 12, 13] rfl rfl ?_
  repeat (first | refine Run.seq ?_ | refine Run.skip ?_ | refine Run.block ?_)
  refine Run.region ?_
  refine O.move rfl rfl ?_
  refine O.move rfl rfl ?_
  refine O.callE c4 rfl (by first | rfl | simp [closed, men3, mens2_app, mens2_ints, mens2, men2, men1, mens1_app, mens1_ints, mens1]) (by first | rfl | simp [d2, ds1_ints, ds1_app, ds1, d1, ds0_app, ds0_ints, ds0, d0]) rfl ?_
  refine O.move rfl rfl ?_
  refine O.extract rfl rfl rfl ?_
  refine O.extract rfl rfl rfl ?_
  refine O.assign rfl rfl ?_
  refine O.assign rfl rfl ?_
  refine O.nil ?_
  try refine Run.keep [0, 1, 4, 5, 6, 7, 8, 9, 10, 11, 12, 13] rfl rfl ?_
  repeat (first | refine Run.seq ?_ | refine Run.skip ?_ | refine Run.block ?_)
  refine Run.region ?_
  refine O.move rfl rfl ?_
  refine O.callE c5 rfl (by first | rfl | simp [closed, men3, mens2_app, mens2_ints, mens2, men2, men1, mens1_app, mens1_ints, mens1]) (by first | rfl | simp [d2, ds1_ints, ds1_app, ds1, d1, ds0_app, ds0_ints, ds0, d0]) rfl ?_
  refine O.move rfl rfl ?_
  refine O.extract rfl rfl rfl ?_
  refine O.extract rfl rfl rfl ?_
  refine O.extract rfl rfl rfl ?_
  refine O.assign rfl rfl ?_
  refine O.assign rfl rfl ?_
  refine O.assign rfl rfl ?_
  refine O.nil ?_
  try refine Run.keep [0, 1, 4, 5, 6, 7, 8, 9, 10, 11, 12, 13] rfl rfl ?_
  repeat (first | refine Run.seq ?_ | refine Run.skip ?_ | refine Run.block ?_)
  refine Run.region ?_
  refine O.move rfl rfl ?_
  first | refine O.cmp rfl rfl rfl (by first | exact decide_eq_true (by omega) | exact decide_eq_false (by omega)) rfl ?_ | refine O.cmp rfl rfl rfl rfl rfl ?_
  refine O.move rfl rfl ?_
  first | (refine O.yes rfl rfl (by first | rfl | assumption) ?_; refine O.move rfl rfl ?_) | refine O.no rfl rfl rfl rfl ?_
  first | (refine O.yes rfl rfl (by first | rfl | assumption) ?_; first | refine O.cmp rfl rfl rfl (by first | exact decide_eq_true (by omega) | exact decide_eq_false (by omega)) rfl ?_ | refine O.cmp rfl rfl rfl rfl rfl ?_) | refine O.no rfl rfl rfl rfl ?_
  refine O.pick rfl rfl rfl rfl rfl ?_
  refine O.move rfl rfl ?_
  first | (refine O.yes rfl rfl (by first | rfl | assumption) ?_; refine O.move rfl rfl ?_) | refine O.no rfl rfl rfl rfl ?_
  first | (refine O.yes rfl rfl (by first | rfl | assumption) ?_; first | refine O.cmp rfl rfl rfl (by first | exact decide_eq_true (by omega) | exact decide_eq_false (by omega)) rfl ?_ | refine O.cmp rfl rfl rfl rfl rfl ?_) | refine O.no rfl rfl rfl rfl ?_
  refine O.pick rfl rfl rfl rfl rfl ?_
  refine O.move rfl rfl ?_
  first | (refine O.yes rfl rfl (by first | rfl | assumption) ?_; refine O.move rfl rfl ?_) | refine O.no rfl rfl rfl rfl ?_
  first | (refine O.yes rfl rfl (by first | rfl | assumption) ?_; refine O.move rfl rfl ?_) | refine O.no rfl rfl rfl rfl ?_
  first | (refine O.yes rfl rfl (by first | rfl | assumption) ?_; first | refine O.cmp rfl rfl rfl (by first | exact decide_eq_true (by omega) | exact decide_eq_false (by omega)) rfl ?_ | refine O.cmp rfl rfl rfl rfl rfl ?_) | refine O.no rfl rfl rfl rfl ?_
  refine O.pick rfl rfl rfl rfl rfl ?_
  refine O.move rfl rfl ?_
  first | (refine O.yes rfl rfl (by first | rfl | assumption) ?_; refine O.move rfl rfl ?_) | refine O.no rfl rfl rfl rfl ?_
  first | (refine O.yes rfl rfl (by first | rfl | assumption) ?_; refine O.move rfl rfl ?_) | refine O.no rfl rfl rfl rfl ?_
  first | (refine O.yes rfl rfl (by first | rfl | assumption) ?_; refine O.callE c6 rfl (by first | rfl | simp [closed, men3, mens2_app, mens2_ints, mens2, men2, men1, mens1_app, mens1_ints, mens1]) (by first | rfl | simp [d2, ds1_ints, ds1_app, ds1, d1, ds0_app, ds0_ints, ds0, d0]) rfl ?_) | refine O.no rfl rfl rfl rfl ?_
  refine O.pick rfl rfl rfl rfl rfl ?_
  refine O.move rfl rfl ?_
  first | (refine O.yes rfl rfl (by first | rfl | assumption) ?_; refine O.move rfl rfl ?_) | refine O.no rfl rfl rfl rfl ?_
  first | (refine O.yes rfl rfl (by first | rfl | assumption) ?_; first | refine O.lenN hE T27 rfl rfl rfl (by first | exact newest_pv | exact newest_gl rfl rfl | trivial) lenC rfl ?_ | refine O.lenLst hE T27 rfl rfl rfl (by first | exact newest_pv | exact newest_gl rfl rfl | trivial) rfl ?_) | refine O.no rfl rfl rfl rfl ?_
  first | (refine O.yes rfl rfl (by first | rfl | assumption) ?_; first | refine O.cmp rfl rfl rfl (by first | exact decide_eq_true (by omega) | exact decide_eq_false (by omega)) rfl ?_ | refine O.cmp rfl rfl rfl rfl rfl ?_) | refine O.no rfl rfl rfl rfl ?_
  refine O.pick rfl rfl rfl rfl rfl ?_
  refine O.assign rfl rfl ?_
  refine O.nil ?_
  try refine Run.keep [0, 1, 4, 5, 6, 7, 8, 9, 10, 11, 12, 13] rfl rfl ?_
  (repeat (first | refine Run.seq ?_ | refine Run.skip ?_)); (try refine Run.ret ?_); first | exact Ends.flat hE (.inr rfl) rfl rfl (AVle.of_eq rfl) rfl | exact Ends.flat hE (.inl rfl) rfl rfl (AVle.of_eq rfl) rfl
end Go.Proofs.YtcbdhdblchmofaaDoor.Vm
