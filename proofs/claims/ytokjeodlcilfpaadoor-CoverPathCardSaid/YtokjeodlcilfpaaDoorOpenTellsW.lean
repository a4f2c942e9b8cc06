/- OpenTells: what frames are taken apart to, and the law's walk. Conditions: the table of steps has 64 words. -/
import Derived.Test.YtokjeodlcilfpaaDoorSlotC
namespace Go.Proofs.YtokjeodlcilfpaaDoor.Vm
open Go Go.RowKit
set_option linter.unusedVariables false
set_option linter.unusedSimpArgs false
attribute [local irreducible] Ops Dr Run digP
variable {g : Nat → Option (List PV)}
section
variable {E : Env} {n : Nat} {tm : List (Nat × AV)} {bx : List (Nat × Box)} {ops : Array Oper} {l : List Oper} {d : Tmp} {ty : TypeId} {pos : String} {after : Array Edge}
theorem D.str {Θ : List Rec → St → Prop} {sr t e : TypeId} {y : Operand} {i ie it : TI} {sz : Nat} {xs : List PV} {ns : List Int} {b : ByteArray} (hE : E.Ok) (ht : E.T sr = some i) (hk : i.desc = .slc e) (he : E.T e = some ie) (hek : ie.desc = .int .u8) (htt : E.T t = some it) (htk : it.desc = .strg) (hy : evO E tm y = some (.pv (.lst sz xs))) (hns : nums xs = some ns) (hb : strOfNums ns = b)
    (hd : Nat.blt d n = true) (h : Dr E.P E.g ops l ⟨n, (d, .pv (.str b)) :: tm, bx⟩ (fun rs => Θ (⟨rtOf y (.pv (.lst sz xs)), [], [], some d, .pv (.str b), []⟩ :: rs))) : Dr E.P E.g ops (⟨some d, .convert sr t y, ty, pos, after, none⟩ :: l) ⟨n, tm, bx⟩ Θ :=
  D.of (rt := rtOf y (.pv (.lst sz xs))) (rb := []) (rt_now hy) none_met hd (fun s hs _ hd' => OpOk.strOf (s := s) (hE.t _ _ ht) hk (hE.t _ _ he) hek (hE.t _ _ htt) htk (evO_ok (n := s.n) (bx := s.bx) (rt_ev hy hs)) rfl hns hb (fun t ht => by obtain rfl := Option.some.inj ht; exact hd')) h
theorem D.strNe {Θ : List Rec → St → Prop} {t t' : TypeId} {y z : Operand} {s s' : ByteArray} {c : Bool} (hy : evO E tm y = some (.pv (.str s))) (hz : evO E tm z = some (.pv (.str s'))) (hc : (!(s.toList == s'.toList)) = c) (hd : Nat.blt d n = true) (h : Dr E.P E.g ops l ⟨n, (d, .pv (.bool c)) :: tm, bx⟩ (fun rs => Θ (⟨rtOf y (.pv (.str s)) ++ rtOf z (.pv (.str s')), [], [], some d, .pv (.bool c), []⟩ :: rs))) :
    Dr E.P E.g ops (⟨some d, .binOp .neq t y z t', ty, pos, after, none⟩ :: l) ⟨n, tm, bx⟩ Θ := by
  subst hc
  exact D.bin (v := .bool (!(s.toList == s'.toList))) hy hz rfl rfl rfl rfl hd h
end
theorem fnSameLists {ps : List (List Int)} (hl : (ps.length : Int) ≤ 1000000) : FnC (En Tryd.prog g) 19 [.pv (.lst 1 (ps.map bys)), .pv (.lst 1 (ps.map bys))] (.pv (.bool true)) [] := by
  have hE := EnOk g
  have hlen : (ps.map bys).length = ps.length := by simp
  refine FnC.of Tryd.func19 rfl rfl rfl rfl ?_
  repeat (first | refine Run.seq ?_ | refine Run.skip ?_ | refine Run.block ?_)
  refine Run.region ?_
  refine O.assign rfl rfl ?_
  refine O.nil ?_
  try refine Run.keep [0, 1, 4, 5, 10, 12, 13, 14, 26] rfl rfl ?_
  repeat (first | refine Run.seq ?_ | refine Run.skip ?_ | refine Run.block ?_)
  refine Run.region ?_
  refine O.move rfl rfl ?_
  first | refine O.lenN hE T27 rfl rfl rfl (by first | exact newest_pv | exact newest_gl rfl rfl | trivial) lenC rfl ?_ | refine O.lenLst hE T27 rfl rfl rfl (by first | exact newest_pv | exact newest_gl rfl rfl | trivial) rfl ?_
  refine O.move rfl rfl ?_
  first | refine O.lenN hE T27 rfl rfl rfl (by first | exact newest_pv | exact newest_gl rfl rfl | trivial) lenC rfl ?_ | refine O.lenLst hE T27 rfl rfl rfl (by first | exact newest_pv | exact newest_gl rfl rfl | trivial) rfl ?_
  first | refine O.cmp rfl rfl rfl (by first | exact decide_eq_true (by omega) | exact decide_eq_false (by omega)) rfl ?_ | refine O.cmp rfl rfl rfl rfl rfl ?_
  refine O.nil ?_
  try refine Run.keep [0, 1, 4, 5, 10, 12, 13, 14, 26] rfl rfl ?_
  repeat (first | refine Run.seq ?_ | refine Run.skip ?_)
  first | refine Run.condT rfl rfl ?_ | refine Run.condF rfl rfl ?_ | refine Run.condT rfl (by assumption) ?_ | refine Run.condF rfl (by assumption) ?_
  repeat (first | refine Run.seq ?_ | refine Run.skip ?_ | refine Run.block ?_)
  refine Run.region ?_
  refine O.move rfl rfl ?_
  first | refine O.lenN hE T27 rfl rfl rfl (by first | exact newest_pv | exact newest_gl rfl rfl | trivial) lenC rfl ?_ | refine O.lenLst hE T27 rfl rfl rfl (by first | exact newest_pv | exact newest_gl rfl rfl | trivial) rfl ?_
  refine O.move rfl rfl ?_
  refine O.nil ?_
  try refine Run.keep [0, 1, 4, 5, 10, 12, 13, 14, 26] rfl rfl ?_
  repeat (first | refine Run.seq ?_ | refine Run.skip ?_)
  refine Run.block ?_
  refine Run.loopInv (ι := Nat) (fun j => j ≤ ps.length) (fun j => ⟨28, [(0, .pv (.lst 1 (ps.map bys))), (1, .pv (.lst 1 (ps.map bys))), (4, .pv (.bool false)), (12, .pv (.int .i64 ps.length)), (13, .pv (.int .i64 j))], []⟩) (fun j => ps.length - j) 0 (by omega) ?_ ?_
  ·
    refine SLe.eqv (by repeat (first | exact TmIn.nil | refine TmIn.cons rfl ?_)) (by repeat (first | exact BxIn.nil | refine BxIn.cons rfl ?_)) rfl
  rintro j hj ih
  by_cases hlt : j < ps.length
  ·
    have hat : (ps.map bys)[(j : Int).toNat]? = some (bys (ps.getD j [])) := by rw [Int.toNat_natCast]; exact ps_at hlt
    generalize ps.getD j [] = P at *
    have hs : (!((strOfNums P).toList == (strOfNums P).toList)) = false := by rw [beq_self_eq_true]; rfl
    repeat (first | refine Run.seq ?_ | refine Run.skip ?_ | refine Run.block ?_)
    refine Run.region ?_
    first | refine O.cmp rfl rfl rfl (by first | exact decide_eq_true (by omega) | exact decide_eq_false (by omega)) rfl ?_ | refine O.cmp rfl rfl rfl rfl rfl ?_
    refine O.nil ?_
    try refine Run.keep [0, 1, 4, 5, 10, 12, 13, 14, 26] rfl rfl ?_
    repeat (first | refine Run.seq ?_ | refine Run.skip ?_)
    first | refine Run.condT rfl rfl ?_ | refine Run.condF rfl rfl ?_ | refine Run.condT rfl (by assumption) ?_ | refine Run.condF rfl (by assumption) ?_
    repeat (first | refine Run.seq ?_ | refine Run.skip ?_ | refine Run.block ?_)
    refine Run.region ?_
    refine O.move rfl rfl ?_
    refine O.assign rfl rfl ?_
    refine O.nil ?_
    try refine Run.keep [0, 1, 4, 5, 10, 12, 13, 14, 26] rfl rfl ?_
    repeat (first | refine Run.seq ?_ | refine Run.skip ?_ | refine Run.block ?_)
    refine Run.draw mixed rfl ?_
    refine D.move rfl rfl ?_
    refine D.move rfl rfl ?_
    refine D.index hE T27 rfl T33 rfl rfl newest_pv rfl (by omega) hat rfl rfl rfl ?_
    first | refine D.loadS hE T33 rfl rfl rfl (by rfl) rfl ?_ | refine D.loadE hE T33 rfl rfl (by rfl) rfl ?_ | refine D.load hE T33 rfl rfl rfl rfl ?_
    refine D.str hE T33 rfl T5 rfl T9 rfl rfl (nums_bytes _) rfl rfl ?_
    refine D.move rfl rfl ?_
    refine D.move rfl rfl ?_
    refine D.index hE T27 rfl T33 rfl rfl newest_pv rfl (by omega) hat rfl rfl rfl ?_
    first | refine D.loadS hE T33 rfl rfl rfl (by rfl) rfl ?_ | refine D.loadE hE T33 rfl rfl (by rfl) rfl ?_ | refine D.load hE T33 rfl rfl rfl rfl ?_
    refine D.str hE T33 rfl T5 rfl T9 rfl rfl (nums_bytes _) rfl rfl ?_
    refine D.strNe rfl rfl hs rfl ?_
    refine Dr.nil ?_
    refine ⟨rfl, ?_⟩
    try refine Run.keep [0, 1, 4, 5, 10, 12, 13, 14, 26] rfl rfl ?_
    repeat (first | refine Run.seq ?_ | refine Run.skip ?_)
    first | refine Run.condT rfl rfl ?_ | refine Run.condF rfl rfl ?_ | refine Run.condT rfl (by assumption) ?_ | refine Run.condF rfl (by assumption) ?_
    repeat (first | refine Run.seq ?_ | refine Run.skip ?_ | refine Run.block ?_)
    refine Run.region ?_
    first | refine O.ar rfl rfl rfl (by exact wrap_i64 (by omega) (by omega)) rfl ?_ | refine O.ar rfl rfl rfl rfl rfl ?_
    refine O.move rfl rfl ?_
    refine O.nil ?_
    try refine Run.keep [0, 1, 4, 5, 10, 12, 13, 14, 26] rfl rfl ?_
    exact ih (j + 1) _ (by refine SLe.eqv (by repeat (first | exact TmIn.nil | refine TmIn.cons rfl ?_)) (by repeat (first | exact BxIn.nil | refine BxIn.cons rfl ?_)) rfl) (by omega) (by omega)
  repeat (first | refine Run.seq ?_ | refine Run.skip ?_ | refine Run.block ?_)
  refine Run.region ?_
  first | refine O.cmp rfl rfl rfl (by first | exact decide_eq_true (by omega) | exact decide_eq_false (by omega)) rfl ?_ | refine O.cmp rfl rfl rfl rfl rfl ?_
  refine O.nil ?_
  try refine Run.keep [0, 1, 4, 5, 10, 12, 13, 14, 26] rfl rfl ?_
  repeat (first | refine Run.seq ?_ | refine Run.skip ?_)
  first | refine Run.condT rfl rfl ?_ | refine Run.condF rfl rfl ?_ | refine Run.condT rfl (by assumption) ?_ | refine Run.condF rfl (by assumption) ?_
  refine Run.exit ?_
  repeat (first | refine thenR_exit ?_ | refine roundR_exit ?_ | refine blockR_exit ?_ | refine blockR_pass rfl ?_)
  repeat (first | refine Run.seq ?_ | refine Run.skip ?_ | refine Run.block ?_)
  refine Run.region ?_
  refine O.assign rfl rfl ?_
  refine O.nil ?_
  try refine Run.keep [0, 1, 4, 5, 10, 12, 13, 14, 26] rfl rfl ?_
  (repeat (first | refine Run.seq ?_ | refine Run.skip ?_)); (try refine Run.ret ?_); first | exact Ends.flat hE (.inr rfl) rfl rfl (AVle.of_eq rfl) rfl | exact Ends.flat hE (.inl rfl) rfl rfl (AVle.of_eq rfl) rfl
/-- The part that a raw thing makes. -/
def partE (r : Rw) : List Int := btl (r.s.extract 0 (if (30 : Int) < (r.s.size : Int) then (30 : Int) else (r.s.size : Int)).toNat)
theorem partE_len (r : Rw) : (partE r).length ≤ 30 := by
  unfold partE
  rw [btl_len, ByteArray.size_extract]
  split <;> omega
def partsE (rs : List Rw) : List (List Int) := (rs.take 8).map partE
theorem wrap8 (z : Int) : IntKind.u8.wrap z = z % 256 := by
  unfold IntKind.wrap
  simp only [IntKind.bits, IntKind.signed, Bool.false_and, Bool.false_eq_true, if_false]
  rw [show (2 : Int) ^ 8 = 256 by decide]
theorem fdiv2 (z : Int) (n : Nat) : z.fdiv (2 ^ n) = z / 2 ^ n := Int.fdiv_eq_ediv_of_nonneg _ (Int.le_of_lt (Int.pow_pos (by decide)))
theorem fourL_is (n : Int) : fourL n = [n / 16777216 % 256, n / 65536 % 256, n / 256 % 256, n % 256] := by
  unfold fourL
  simp only [wrap8, fdiv2]
  rfl
/-- Parts, each behind its length. -/
def flatL (ps : List (List Int)) : List Int := (ps.map fun p => fourL p.length ++ p).flatten
theorem flatL_cons {p : List Int} {ps : List (List Int)} (h : p.length ≤ 30) : flatL (p :: ps) = 0 :: 0 :: 0 :: (p.length : Int) :: (p ++ flatL ps) := by
  have e : fourL p.length = [0, 0, 0, (p.length : Int)] := by
    rw [fourL_is]
    congr 1
    · omega
    · congr 1
      · omega
      · congr 1
        · omega
        · congr 1; omega
  simp only [flatL, List.map_cons, List.flatten_cons, e, List.cons_append, List.nil_append]
theorem or_len {n : Nat} (h : n ≤ 30) : bitI .or .i64 0 (IntKind.i64.wrap (n : Int)) = some (n : Int) := by
  have key : ∀ y : Fin 31, bitI .or .i64 0 (IntKind.i64.wrap ((y.val : Nat) : Int)) = some ((y.val : Nat) : Int) := by decide +kernel
  exact key ⟨n, by omega⟩
end Go.Proofs.YtokjeodlcilfpaaDoor.Vm
