/- Rows that fit; an expression made ready; eval.Eval. Conditions: what utf8.ValidString answers. -/
import Derived.Test.YtdigejpgjnhclaaDoorEvalG
import Derived.Test.YtdigejpgjnhclaaDoorExecT
namespace Go.Proofs.YtdigejpgjnhclaaDoor.Vm
open Go Go.RowKit Go.Lib
set_option linter.unusedVariables false
set_option linter.unusedSimpArgs false
attribute [local irreducible] Ops Dr Run
variable {g : Nat → Option (List PV)}
theorem fnKFits (hV : VStr g) {cs : List Kol} (hc : ColsOk cs) {row : List Vl} (hr : RowOk cs row) : FnC (En Tryd.prog g) 43 [.pv (.lst 4 (row.map vlE)), .pv (.lst 3 (cs.map kolE))] (.pv (.int .i64 0)) [] := by
  have hE := EnOk g
  have c1 := fnColumns (g := g) hc
  have hlen := hc.len
  obtain ⟨hrl, hrok⟩ := hr
  have l1 : ((row.map vlE).length : Int) = (cs.length : Int) := by rw [List.length_map, hrl]
  have l2 : ((cs.map kolE).length : Int) = (cs.length : Int) := by rw [List.length_map]
  refine FnC.at hE mixed Tryd.func43 [(10, .fn _ _ _ c1), (12, .b false), (15, .w ↑cs.length), (17, .w ↑cs.length), (18, .b false), (20, .w ↑cs.length)] ?_
  refine Run.inv (ι := Nat) (fun j => j ≤ cs.length)
    (fun j => ⟨58, [(1, .pv (.lst 3 (cs.map kolE))), (19, .pv (.lst 4 (row.map vlE))), (20, .pv (.int .i64 cs.length)), (21, .pv (.int .i64 j))], []⟩) (fun j => cs.length - j) 0 (by omega) SLe.to ?_
  rintro j hj ih
  by_cases hlt : j < cs.length
  ·
    obtain ⟨c, hc0⟩ : ∃ c, cs[j]? = some c := ⟨_, List.getElem?_eq_getElem hlt⟩
    obtain ⟨v, hv0⟩ : ∃ v, row[j]? = some v := ⟨_, List.getElem?_eq_getElem (by omega)⟩
    obtain ⟨hg, hk⟩ := hrok j c v hc0 hv0
    have hat2 := kol_at hc0
    have hat : (row.map vlE)[(j : Int).toNat]? = some (vlE v) := by rw [Int.toNat_natCast, List.getElem?_map, hv0]; rfl
    have cv := fnCheck hV hg
    clear hg
    obtain ⟨ck, ckd, cnl⟩ := c
    obtain ⟨vk, vn, vb, vs⟩ := v
    dsimp only [vlE] at hat
    dsimp only [vlA] at cv
    dsimp only [kolE] at hat2
    dsimp only at hk
    by_cases h0 : vk = 0
    ·
      by_cases hn : cnl = true
      case neg => exact absurd (hk.elim (fun h => h) (fun h => absurd h.2 hn)) (fun h => by have := (hc.ok _ (List.mem_of_getElem? hc0)).2; dsimp only at this; omega)
      subst hn
      refine Run.end hE mixed [(22, .b true), (24, .el (PV.agg [PV.int IntKind.i64 vk, PV.int IntKind.i64 vn, PV.int IntKind.u64 vb, PV.str vs])), (27, .fn _ _ _ cv), (29, .b false), (34, .b true), (38, .el (PV.agg [PV.str ck, PV.int IntKind.i64 ckd, PV.bool true])), (46, .b false)] ?_
      exact ih (j + 1) _ SLe.to (by omega) (by omega)
    ·
      have hkk : vk = ckd := hk.elim id (fun h => absurd h.1 h0)
      refine Run.end hE mixed [(22, .b true), (24, .el (PV.agg [PV.int IntKind.i64 vk, PV.int IntKind.i64 vn, PV.int IntKind.u64 vb, PV.str vs])), (27, .fn _ _ _ cv), (29, .b false), (34, .b false), (46, .b true), (52, .el (PV.agg [PV.str ck, PV.int IntKind.i64 ckd, PV.bool cnl])), (55, .b false)] ?_
      exact ih (j + 1) _ SLe.to (by omega) (by omega)
  obtain rfl : j = cs.length := by omega
  refine Run.end hE mixed [(22, .b false)] ?_
  exact End.go hE
theorem fnKRow (hV : VStr g) {cs : List Kol} (hc : ColsOk cs) {row : List Vl} (hr : RowOk cs row) : FnC (En Tryd.prog g) 32 [.pv (.lst 4 (row.map vlE)), .pv (.lst 3 (cs.map kolE))] (.pv (.int .i64 0)) [] := by
  have hE := EnOk g
  have c1 := fnKFits hV hc hr
  exact FnC.go hE mixed Tryd.func32 [(7, .fn _ _ _ c1)]
/-- What an expression is made ready as. -/
abbrev thE (cs : List Kol) (x : Xp) : PV := .ifc (x.tid cs) (.agg (x.pay cs))
def ToOk (g : Nat → Option (List PV)) (cs : List Kol) (x : Xp) : Prop := FnC (En Tryd.prog g) 36 [xA x, .pv (.lst 3 (cs.map kolE))] (.pv (thE cs x)) []
theorem toLit (cs : List Kol) (v : Vl) : ToOk g cs (.lit v) := by
  have hE := EnOk g
  unfold ToOk
  obtain ⟨vk, vn, vb, vs⟩ := v
  dsimp only [xA, Xp.op, Xp.v, Xp.nm, Xp.as, thE, Xp.tid, Xp.pay]
  exact FnC.go hE mixed Tryd.func36 [(11, .b false), (23, .b false), (42, .b true)]
theorem toUn {cs : List Kol} {op : Int} {a : Xp} (ha : ToOk g cs a) : ToOk g cs (.un op a) := by
  have hE := EnOk g
  unfold ToOk at ha ⊢
  have hat : ([xE a] : List PV)[(0 : Int).toNat]? = some (xE a) := rfl
  dsimp only [xA, Xp.op, Xp.v, Xp.nm, Xp.as, thE, Xp.tid, Xp.pay] at ha ⊢
  exact FnC.go hE mixed Tryd.func36 [(11, .b true), (19, .fn _ _ _ ha)]
theorem toBi {cs : List Kol} {op : Int} {a b : Xp} (ha : ToOk g cs a) (hb : ToOk g cs b) : ToOk g cs (.bi op a b) := by
  have hE := EnOk g
  unfold ToOk at ha hb ⊢
  have hat0 : ([xE a, xE b] : List PV)[(0 : Int).toNat]? = some (xE a) := rfl
  have hat1 : ([xE a, xE b] : List PV)[(1 : Int).toNat]? = some (xE b) := rfl
  dsimp only [xA, Xp.op, Xp.v, Xp.nm, Xp.as, thE, Xp.tid, Xp.pay] at ha hb ⊢
  exact FnC.go hE mixed Tryd.func36 [(23, .b true), (31, .fn _ _ _ ha), (37, .fn _ _ _ hb)]
theorem toCol {cs : List Kol} (hl : cs.length ≤ 5) {s : ByteArray} {i : Nat} (hi : idxC cs s = some i) : ToOk g cs (.col s) := by
  have hE := EnOk g
  unfold ToOk
  have hlm : ((cs.map kolE).length : Int) = cs.length := by simp
  obtain ⟨hil, hi1, hi2⟩ := List.findIdx?_eq_some_iff_getElem.1 hi
  have e2 : Xp.pay cs (.col s) = [.int .i64 (i : Int)] := by simp only [Xp.pay, hi, Option.getD_some]
  dsimp only [thE]
  rw [e2]
  clear e2 hi
  dsimp only [xA, Xp.op, Xp.v, Xp.nm, Xp.as, Xp.tid]
  refine FnC.at hE mixed Tryd.func36 [(11, .b false), (23, .b false), (42, .b false), (48, .w ↑cs.length)] ?_
  refine Run.inv (ι := Nat) (fun j => j ≤ i)
    (fun j => ⟨65, [(2, .ptr 2 0), (47, .pv (.lst 3 (cs.map kolE))), (48, .pv (.int .i64 cs.length)), (49, .pv (.int .i64 j))], [(2, .var [.pv (.int .i64 2), .pv (.int .i64 0), .pv (.int .i64 0), .pv (.int .u64 0), .pv (.str noS), .pv (.str s), .pv (.lst 7 [])])]⟩) (fun j => i - j) 0 (by omega) SLe.to ?_
  rintro j hj ih
  have hlt : j < cs.length := by omega
  obtain ⟨d, hd⟩ : ∃ d, cs[j]? = some d := ⟨_, List.getElem?_eq_getElem hlt⟩
  have hd2 : cs[j] = d := (List.getElem?_eq_some_iff.1 hd).2
  have hat := kol_at hd
  by_cases hq : j = i
  ·
    subst hq
    have hq' : (d.nm.toList == s.toList) = true := by rw [← hd2]; exact hi1
    obtain ⟨dk, dkd, dnl⟩ := d
    dsimp only [kolE] at hat
    dsimp only at hq'
    refine Run.end hE mixed [(50, .b true), (52, .el (PV.agg [PV.str dk, PV.int IntKind.i64 dkd, PV.bool dnl])), (58, .b true)] ?_
    exact End.go hE
  ·
    have hq' : (d.nm.toList == s.toList) = false := by
      have := hi2 j (by omega)
      rw [hd2] at this
      simpa using this
    obtain ⟨dk, dkd, dnl⟩ := d
    dsimp only [kolE] at hat
    dsimp only at hq'
    refine Run.end hE mixed [(50, .b true), (52, .el (PV.agg [PV.str dk, PV.int IntKind.i64 dkd, PV.bool dnl])), (58, .b false)] ?_
    exact ih (j + 1) _ SLe.to (by omega) (by omega)
theorem toOk {cs : List Kol} (hl : cs.length ≤ 5) {k : Int} {x : Xp} (h : Ty cs k x) : ToOk g cs x := by
  induction h with
  | lit hv hn hk => exact toLit cs _
  | @col c hf hn =>
    obtain ⟨i, h1, _⟩ := idxC_of hf
    exact toCol hl h1
  | un h ha ih => exact toUn ih
  | bi h ha hb ia ib => exact toBi ia ib
theorem fnEvalG (hV : VStr g) {cs : List Kol} (hc : ColsOk cs) {row : List Vl} (hr : RowOk cs row) {x : Xp} (hw : x.wf) (hd : x.dp ≤ 7) (hs : x.sz ≤ 40) (c3 : ToOk g cs x) (c4 : ThOk g cs row x) (hv : (valP cs row x).2 = 0 ∨ (valP cs row x).1 = v0) : FnC (En Tryd.prog g) 18 [xA x, .pv (.lst 3 (cs.map kolE)), .pv (.lst 4 (row.map vlE))] (.tup [vlA (valP cs row x).1, .pv (.int .i64 (valP cs row x).2)]) [] := by
  have hE := EnOk g
  have c1 := fnXCheck hV hw hd hs
  have c2 := fnKRow hV hc hr
  have hm := meth_x cs x
  unfold ToOk at c3
  unfold ThOk at c4
  clear hw
  generalize valP cs row x = q at *
  obtain ⟨⟨vk, vn, vb, vs⟩, ve⟩ := q
  dsimp only [vlA] at c4 ⊢
  by_cases h0 : ve = 0
  ·
    subst h0
    exact FnC.go hE mixed Tryd.func18 [(13, .fn _ _ _ c1), (15, .b false), (20, .fn _ _ _ c2), (22, .b false), (28, .fn _ _ _ c3), (30, .inv _ _ _ _ _ hm c4), (34, .b false)]
  ·
    have hv0 : (⟨vk, vn, vb, vs⟩ : Vl) = v0 := hv.resolve_left h0
    cases hv0
    exact FnC.go hE mixed Tryd.func18 [(13, .fn _ _ _ c1), (15, .b false), (20, .fn _ _ _ c2), (22, .b false), (28, .fn _ _ _ c3), (30, .inv _ _ _ _ _ hm c4), (34, .b true)]
theorem fnEval (hV : VStr g) {cs : List Kol} (hc : ColsOk cs) {row : List Vl} (hr : RowOk cs row) {k : Int} {x : Xp} (h : Ty cs k x) (hd : x.dp ≤ 7) (hs : x.sz ≤ 40) : FnC (En Tryd.prog g) 18 [xA x, .pv (.lst 3 (cs.map kolE)), .pv (.lst 4 (row.map vlE))] (.tup [vlA (valP cs row x).1, .pv (.int .i64 (valP cs row x).2)]) [] :=
  fnEvalG hV hc hr h.wf hd hs (toOk hc.len h) (thOk hV hc.len hr h) ((val_ok hr h).imp (fun h => h.1) (fun h => h.1))
theorem fnNumX {n : Int} : FnC (En Tryd.prog g) 24 [.pv (.int .i64 n)] (xA (.lit (vN n))) [] := by
  have hE := EnOk g
  exact FnC.go hE mixed Tryd.func24 []
end Go.Proofs.YtdigejpgjnhclaaDoor.Vm
