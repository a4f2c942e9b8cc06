/- Rolls: the root as it is asked; bytes compared. Conditions: the table of steps has 64 words. -/
import Derived.Test.YthpenjbpaegpgaaDoorRollT
namespace Go.Proofs.YthpenjbpaegpgaaDoor.Vm
open Go Go.RowKit
set_option linter.unusedVariables false
set_option linter.unusedSimpArgs false
attribute [local irreducible] Ops Dr Run digP rootP
variable {g : Nat → Option (List PV)}
theorem fnRoot {T : List Int → List Int → List Int} (hT : Feeds g T) {Hf : Int → Int} (hH : Halves g Hf) {mode : Int} (hm : mode = 1 ∨ mode = 2) {f : Nat} {ps : List (List Int)} (hl : ps.length ≤ f) (he : Entries ps) :
    FnC (En Tryd.prog g) 8 [.pv (.int .i64 mode), .pv (.lst 1 (ps.map bys))] (.tup [.pv (bys (rootP (digP T mode) Hf f ps)), .pv (.int .i64 0)]) [] := by
  have hE := EnOk g
  have c1 := fnFault (g := g) hm he.1
  have c2 := fnRollRoot hT hH hm f ps hl he
  generalize rootP (digP T mode) Hf f ps = R at *
  refine FnC.of Tryd.func8 rfl rfl rfl rfl ?_
  repeat (first | refine Run.seq ?_ | refine Run.skip ?_ | refine Run.block ?_)
  refine Run.region ?_
  refine O.assign rfl rfl ?_
  refine O.assign rfl rfl ?_
  refine O.nil ?_
  try refine Run.keep [0, 1, 4, 5, 6, 11] rfl rfl ?_
  repeat (first | refine Run.seq ?_ | refine Run.skip ?_ | refine Run.block ?_)
  refine Run.region ?_
  refine O.move rfl rfl ?_
  refine O.move rfl rfl ?_
  refine O.callE c1 rfl (by first | rfl | simp [closed, men3, mens2_app, mens2_ints, mens2, men2, men1, mens1_app, mens1_ints, mens1]) (by first | rfl | simp [d2, ds1_ints, ds1_app, ds1, d1, ds0_app, ds0_ints, ds0, d0]) rfl ?_
  refine O.assign rfl rfl ?_
  refine O.nil ?_
  try refine Run.keep [0, 1, 4, 5, 6, 11] rfl rfl ?_
  repeat (first | refine Run.seq ?_ | refine Run.skip ?_ | refine Run.block ?_)
  refine Run.region ?_
  refine O.move rfl rfl ?_
  first | refine O.cmp rfl rfl rfl (by first | exact decide_eq_true (by omega) | exact decide_eq_false (by omega)) rfl ?_ | refine O.cmp rfl rfl rfl rfl rfl ?_
  refine O.nil ?_
  try refine Run.keep [0, 1, 4, 5, 6, 11] rfl rfl ?_
  repeat (first | refine Run.seq ?_ | refine Run.skip ?_)
  first | refine Run.condT rfl rfl ?_ | refine Run.condF rfl rfl ?_ | refine Run.condT rfl (by assumption) ?_ | refine Run.condF rfl (by assumption) ?_
  repeat (first | refine Run.seq ?_ | refine Run.skip ?_ | refine Run.block ?_)
  refine Run.region ?_
  refine O.move rfl rfl ?_
  refine O.move rfl rfl ?_
  refine O.callE c2 rfl (by first | rfl | simp [closed, men3, mens2_app, mens2_ints, mens2, men2, men1, mens1_app, mens1_ints, mens1]) (by first | rfl | simp [d2, ds1_ints, ds1_app, ds1, d1, ds0_app, ds0_ints, ds0, d0]) rfl ?_
  refine O.extract rfl rfl rfl ?_
  refine O.extract rfl rfl rfl ?_
  refine O.assign rfl rfl ?_
  refine O.assign rfl rfl ?_
  refine O.nil ?_
  try refine Run.keep [0, 1, 4, 5, 6, 11] rfl rfl ?_
  (repeat (first | refine Run.seq ?_ | refine Run.skip ?_)); (try refine Run.ret ?_); first | exact Ends.flat hE (.inr rfl) rfl rfl (AVle.of_eq rfl) rfl | exact Ends.flat hE (.inl rfl) rfl rfl (AVle.of_eq rfl) rfl
theorem nums_bytes : ∀ l : List Int, nums (l.map (PV.int .u8)) = some l
  | [] => rfl
  | x :: l => by simp only [List.map_cons, nums, nums_bytes l]; rfl
section
variable {E : Env} {n : Nat} {tm : List (Nat × AV)} {bx : List (Nat × Box)} {ops : Array Oper} {l : List Oper} {d : Tmp} {ty : TypeId} {pos : String} {after : Array Edge}
theorem O.strEq {Θ : St → Prop} {t t' : TypeId} {y z : Operand} {s s' : ByteArray} {c : Bool} (hy : evO E tm y = some (.pv (.str s))) (hz : evO E tm z = some (.pv (.str s'))) (hc : (s.toList == s'.toList) = c) (hd : Nat.blt d n = true) (h : Ops E.P E.g ops l ⟨n, (d, .pv (.bool c)) :: tm, bx⟩ Θ) :
    Ops E.P E.g ops (⟨some d, .binOp .eql t y z t', ty, pos, after, none⟩ :: l) ⟨n, tm, bx⟩ Θ := by
  subst hc
  exact O.bin (v := .bool (s.toList == s'.toList)) hy hz rfl rfl rfl rfl hd h
/-- Rows of bytes behind rows of bytes. -/
theorem O.appP {Θ : St → Prop} {t e : TypeId} {y x : Operand} {i ie : TI} {b m sz s2 : Nat} {q r : List (List Int)} {z : AV} (hE : E.Ok) (ht : E.T t = some i) (hk : i.desc = .slc e) (he : E.T e = some ie) (hy : evO E tm y = some (.gl b m)) (hb : look bx b = some (.lst e sz (q.map bys))) (hm : m = q.length) (hx : evO E tm x = some z)
    (hl : lstO bx z = some (s2, r.map bys)) (hn : newest bx z) (hsz : s2 = sz) (hsz2 : sz = ie.size) (hz : Nat.beq ie.zero.length ie.size = true) (hpos : Nat.blt 0 ie.size = true) (hb1 : (q.length + r.length) * ie.bytes ≤ 140737488355328) (hb2 : q.length + r.length ≤ maxLen) (hd : Nat.blt d n = true)
    (h : Ops E.P E.g ops l ⟨n, (d, .gl b (q ++ r).length) :: tm, (b, .lst e sz ((q ++ r).map bys)) :: bx⟩ Θ) : Ops E.P E.g ops (⟨some d, .call { callee := .builtin .append, args := #[y, x], argTypes := #[t, t] }, ty, pos, after, none⟩ :: l) ⟨n, tm, bx⟩ Θ := by
  refine O.append hE ht hk he hy hb (by simp [hm]) hx hl hn hsz hsz2 hz hpos (by simpa using hb1) (by simpa using hb2) List.map_append.symm hd ?_
  rw [List.length_map]
  exact h
end
theorem fnBytesEq (a : List Int) : FnC (En Tryd.prog g) 31 [.pv (bys a), .pv (bys a)] (.pv (.bool true)) [] := by
  have hE := EnOk g
  have hs : ((strOfNums a).toList == (strOfNums a).toList) = true := beq_self_eq_true _
  refine FnC.of Tryd.func31 rfl rfl rfl rfl ?_
  repeat (first | refine Run.seq ?_ | refine Run.skip ?_ | refine Run.block ?_)
  refine Run.region ?_
  refine O.assign rfl rfl ?_
  refine O.nil ?_
  try refine Run.keep [0, 1, 4] rfl rfl ?_
  repeat (first | refine Run.seq ?_ | refine Run.skip ?_ | refine Run.block ?_)
  refine Run.region ?_
  refine O.move rfl rfl ?_
  refine O.str hE T31 rfl T5 rfl T9 rfl rfl rfl newest_pv (nums_bytes _) rfl rfl ?_
  refine O.move rfl rfl ?_
  refine O.str hE T31 rfl T5 rfl T9 rfl rfl rfl newest_pv (nums_bytes _) rfl rfl ?_
  refine O.strEq rfl rfl hs rfl ?_
  refine O.assign rfl rfl ?_
  refine O.nil ?_
  try refine Run.keep [0, 1, 4] rfl rfl ?_
  (repeat (first | refine Run.seq ?_ | refine Run.skip ?_)); (try refine Run.ret ?_); first | exact Ends.flat hE (.inr rfl) rfl rfl (AVle.of_eq rfl) rfl | exact Ends.flat hE (.inl rfl) rfl rfl (AVle.of_eq rfl) rfl
end Go.Proofs.YthpenjbpaegpgaaDoor.Vm
