/- Raw things: their texts as entries. Conditions: none. -/
import Derived.Test.YtcbdhdblchmofaaDoorRightS
import Derived.Test.YtcbdhdblchmofaaDoorRollJ
namespace Go.Proofs.YtcbdhdblchmofaaDoor.Vm
open Go Go.RowKit
set_option linter.unusedVariables false
set_option linter.unusedSimpArgs false
attribute [local irreducible] Ops Dr Run
/-- The bytes of a text. -/
def btl (b : ByteArray) : List Int := b.data.toList.map fun c => (c.toNat : Int)
theorem bys_btl (b : ByteArray) : bys (btl b) = .lst 1 (byts b) := by simp [bys, btl, byts, Function.comp_def]
theorem btl_len (b : ByteArray) : (btl b).length = b.size := by simp [btl]
section
variable {E : Env} {n : Nat} {tm : List (Nat × AV)} {bx : List (Nat × Box)} {ops : Array Oper} {l : List Oper} {d : Tmp} {ty : TypeId} {pos : String} {after : Array Edge}
theorem O.bytesB {Θ : St → Prop} {sr t e : TypeId} {y : Operand} {i ie is : TI} {b : ByteArray} {q : List Int} (hE : E.Ok) (hs0 : E.T sr = some is) (ht : E.T t = some i) (hk : i.desc = .slc e) (he : E.T e = some ie) (hek : ie.desc = .int .u8) (hy : evO E tm y = some (.pv (.str b))) (hq : btl b = q) (hm : b.size ≤ maxLen) (hd : Nat.blt d n = true) (h : Ops E.P E.g ops l ⟨n, (d, .pv (bys q)) :: tm, bx⟩ Θ) :
    Ops E.P E.g ops (⟨some d, .convert sr t y, ty, pos, after, none⟩ :: l) ⟨n, tm, bx⟩ Θ := by
  subst hq
  rw [bys_btl] at h
  exact O.bytes hE hs0 ht hk he hek hy hm hd h
end
/-- The entry that a raw thing makes. -/
def entE (r : Rw) : List Int := btl (r.s.extract 0 (if (12 : Int) < (r.s.size : Int) then (12 : Int) else (r.s.size : Int)).toNat)
theorem entE_len (r : Rw) : (entE r).length ≤ 12 := by
  unfold entE
  rw [btl_len, ByteArray.size_extract]
  split <;> omega
def entsE (rs : List Rw) : List (List Int) := (rs.take 20).map entE
theorem fnEntriesOf {g : Nat → Option (List PV)} {rs : List Rw} (hl : (rs.length : Int) ≤ 9223372036854775807) : FnC (En Tryd.prog g) 36 [.pv (.lst 4 (rs.map rawE))] (.gl 57 (entsE rs).length) [(57, .lst 27 1 ((entsE rs).map bys))] := by
  have hE := EnOk g
  have c1 := fnSome (g := g) (rs := rs) (m := 20) (by omega) hl
  unfold entsE
  rw [show (20 : Int).toNat = 20 from rfl] at c1
  have hl20 : (rs.take 20).length ≤ 20 := by rw [List.length_take]; omega
  generalize rs.take 20 = R at *
  have hlen : (R.map rawE).length = R.length := by simp
  refine FnC.of Tryd.func36 rfl rfl rfl rfl ?_
  repeat (first | refine Run.seq ?_ | refine Run.skip ?_ | refine Run.block ?_)
  refine Run.region ?_
  refine O.assign rfl rfl ?_
  refine O.nil ?_
  try refine Run.keep [0, 2, 3, 5, 7, 8, 9, 10] rfl rfl ?_
  repeat (first | refine Run.seq ?_ | refine Run.skip ?_ | refine Run.block ?_)
  refine Run.region ?_
  refine O.assign rfl rfl ?_
  refine O.nil ?_
  try refine Run.keep [0, 2, 3, 5, 7, 8, 9, 10] rfl rfl ?_
  repeat (first | refine Run.seq ?_ | refine Run.skip ?_ | refine Run.block ?_)
  refine Run.region ?_
  refine O.move rfl rfl ?_
  refine O.callE c1 rfl (by first | rfl | simp [closed, men3, mens2_app, mens2_ints, mens2, men2, men1, mens1_app, mens1_ints, mens1]) (by first | rfl | simp [d2, ds1_ints, ds1_app, ds1, d1, ds0_app, ds0_ints, ds0, d0]) rfl ?_
  first | refine O.lenN hE T60 rfl rfl rfl (by first | exact newest_pv | exact newest_gl rfl rfl | trivial) lenC rfl ?_ | refine O.lenLst hE T60 rfl rfl rfl (by first | exact newest_pv | exact newest_gl rfl rfl | trivial) rfl ?_
  refine O.move rfl rfl ?_
  refine O.nil ?_
  try refine Run.keep [0, 2, 3, 5, 7, 8, 9, 10] rfl rfl ?_
  refine Run.pre (SLe.nilBox (t := 3) (b := 57) (e := 27) (sz := 1) rfl rfl rfl rfl) ?_
  repeat (first | refine Run.seq ?_ | refine Run.skip ?_)
  refine Run.block ?_
  refine Run.loopInv (ι := Nat) (fun j => j ≤ R.length)
    (fun j => ⟨26, [(3, .gl 57 ((R.take j).map entE).length), (7, .pv (.lst 4 (R.map rawE))), (8, .pv (.int .i64 R.length)), (9, .pv (.int .i64 j))], [(57, .lst 27 1 (((R.take j).map entE).map bys))]⟩) (fun j => R.length - j) 0 (by omega) ?_ ?_
  ·
    refine SLe.eqv (by repeat (first | exact TmIn.nil | refine TmIn.cons rfl ?_)) (by repeat (first | exact BxIn.nil | refine BxIn.cons rfl ?_)) rfl
  rintro j hj ih
  by_cases hlt : j < R.length
  ·
    obtain ⟨r, hr⟩ : ∃ r, R[j] = r := ⟨_, rfl⟩
    have hat : (R.map rawE)[(j : Int).toNat]? = some (rawE r) := by
      rw [Int.toNat_natCast, List.getElem?_map, List.getElem?_eq_getElem hlt, hr]; rfl
    have htk : (R.take (j + 1)).map entE = (R.take j).map entE ++ [entE r] := by
      rw [List.take_add_one, List.getElem?_eq_getElem hlt, hr]; simp
    have hQ : ((R.take j).map entE).length = j := by simp; omega
    obtain ⟨M, hM⟩ : ∃ M : Int, (if (12 : Int) < (r.s.size : Int) then (12 : Int) else (r.s.size : Int)) = M := ⟨_, rfl⟩
    have hM0 : 0 ≤ M ∧ M ≤ r.s.size ∧ M ≤ 12 := by split at hM <;> omega
    have hb : btl (r.s.extract (0 : Int).toNat M.toNat) = entE r := by unfold entE; rw [hM]; rfl
    have hsz : (r.s.extract (0 : Int).toNat M.toNat).size ≤ maxLen := by rw [ByteArray.size_extract]; unfold maxLen; omega
    repeat (first | refine Run.seq ?_ | refine Run.skip ?_ | refine Run.block ?_)
    refine Run.region ?_
    first | refine O.cmp rfl rfl rfl (by first | exact decide_eq_true (by omega) | exact decide_eq_false (by omega)) rfl ?_ | refine O.cmp rfl rfl rfl rfl rfl ?_
    refine O.nil ?_
    try refine Run.keep [0, 2, 3, 5, 7, 8, 9, 10] rfl rfl ?_
    repeat (first | refine Run.seq ?_ | refine Run.skip ?_)
    first | refine Run.condT rfl rfl ?_ | refine Run.condF rfl rfl ?_ | refine Run.condT rfl (by assumption) ?_ | refine Run.condF rfl (by assumption) ?_
    repeat (first | refine Run.seq ?_ | refine Run.skip ?_ | refine Run.block ?_)
    refine Run.region ?_
    refine O.index hE T60 rfl T49 rfl rfl newest_pv rfl (by omega) hat rfl rfl rfl ?_
    refine O.load hE T49 rfl rfl rfl rfl ?_
    refine O.alloc hE 5 T49 rfl rfl rfl ?_
    refine O.store hE T49 rfl rfl rfl rfl rfl rfl ?_
    refine O.nil ?_
    try refine Run.keep [0, 2, 3, 5, 7, 8, 9, 10] rfl rfl ?_
    repeat (first | refine Run.seq ?_ | refine Run.skip ?_ | refine Run.block ?_)
    refine Run.region ?_
    refine O.move rfl rfl ?_
    refine O.field hE L49 rfl rfl rfl rfl ?_
    first | refine O.loadS hE T9 rfl rfl rfl (by rfl) rfl ?_ | refine O.loadE hE T9 rfl rfl (by rfl) rfl ?_ | refine O.load hE T9 rfl rfl rfl rfl ?_
    refine O.field hE L49 rfl rfl rfl rfl ?_
    first | refine O.loadS hE T9 rfl rfl rfl (by rfl) rfl ?_ | refine O.loadE hE T9 rfl rfl (by rfl) rfl ?_ | refine O.load hE T9 rfl rfl rfl rfl ?_
    refine O.lenStr hE T9 rfl rfl rfl ?_
    refine O.minI rfl rfl hM rfl ?_
    refine O.sliceS hE T9 rfl rfl rfl rfl (by omega) (by omega) (by omega) rfl rfl ?_
    refine O.bytesB hE T9 T27 rfl T5 rfl rfl hb hsz rfl ?_
    refine O.litV hE T41 rfl T27 rfl rfl rfl rfl rfl rfl rfl ?_
    refine O.appP (r := [entE r]) hE T41 rfl T27 rfl rfl rfl rfl rfl newest_pv rfl rfl rfl rfl (by simp; omega) (by simp [maxLen]; omega) rfl ?_
    refine O.assign rfl rfl ?_
    refine O.nil ?_
    try refine Run.keep [0, 2, 3, 5, 7, 8, 9, 10] rfl rfl ?_
    repeat (first | refine Run.seq ?_ | refine Run.skip ?_ | refine Run.block ?_)
    refine Run.region ?_
    first | refine O.ar rfl rfl rfl (by exact wrap_i64 (by omega) (by omega)) rfl ?_ | refine O.ar rfl rfl rfl rfl rfl ?_
    refine O.move rfl rfl ?_
    refine O.nil ?_
    try refine Run.keep [0, 2, 3, 5, 7, 8, 9, 10] rfl rfl ?_
    refine ih (j + 1) _ ?_ (by omega) (by omega)
    rw [htk]
    exact SLe.drop (by repeat (first | exact TmIn.nil | refine TmIn.cons rfl ?_)) (by repeat (first | exact BxIn.nil | refine BxIn.cons rfl ?_)) rfl rfl
  have hj' : j = R.length := by omega
  rw [hj', List.take_length]
  repeat (first | refine Run.seq ?_ | refine Run.skip ?_ | refine Run.block ?_)
  refine Run.region ?_
  first | refine O.cmp rfl rfl rfl (by first | exact decide_eq_true (by omega) | exact decide_eq_false (by omega)) rfl ?_ | refine O.cmp rfl rfl rfl rfl rfl ?_
  refine O.nil ?_
  try refine Run.keep [0, 2, 3, 5, 7, 8, 9, 10] rfl rfl ?_
  repeat (first | refine Run.seq ?_ | refine Run.skip ?_)
  first | refine Run.condT rfl rfl ?_ | refine Run.condF rfl rfl ?_ | refine Run.condT rfl (by assumption) ?_ | refine Run.condF rfl (by assumption) ?_
  refine Run.exit ?_
  repeat (first | refine thenR_exit ?_ | refine roundR_exit ?_ | refine blockR_exit ?_ | refine blockR_pass rfl ?_)
  repeat (first | refine Run.seq ?_ | refine Run.skip ?_ | refine Run.block ?_)
  refine Run.region ?_
  refine O.move rfl rfl ?_
  refine O.assign rfl rfl ?_
  refine O.nil ?_
  try refine Run.keep [0, 2, 3, 5, 7, 8, 9, 10] rfl rfl ?_
  refine Run.ret ?_
  exact Ends.of hE (.inr rfl) rfl rfl (SLe.eqv (by repeat (first | exact TmIn.nil | refine TmIn.cons rfl ?_)) (by repeat (first | exact BxIn.nil | refine BxIn.cons rfl ?_)) rfl)
end Go.Proofs.YtcbdhdblchmofaaDoor.Vm
