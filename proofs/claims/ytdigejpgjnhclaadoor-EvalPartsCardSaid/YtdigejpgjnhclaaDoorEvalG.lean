/- What an expression is made ready as, and what that says of a row: eval.Eval. Conditions: what utf8.ValidString answers. -/
import Derived.Test.YtdigejpgjnhclaaDoorEvalF
import Derived.Test.YtdigejpgjnhclaaDoorExecT
namespace Go.Proofs.YtdigejpgjnhclaaDoor.Vm
open Go Go.RowKit Go.Lib
set_option linter.unusedVariables false
set_option linter.unusedSimpArgs false
attribute [local irreducible] Ops Dr Run
/-- The type of the thing that an expression is made ready as. -/
def Xp.tid (cs : List Kol) : Xp → TypeId
  | .lit _ => 98
  | .col _ => 100
  | .un _ _ => 94
  | .bi _ _ _ => 96
def Xp.pay (cs : List Kol) : Xp → List PV
  | .lit v => [.int .i64 v.kd, .int .i64 v.n, .int .u64 v.b, .str v.s]
  | .col s => [.int .i64 (((idxC cs s).getD 0 : Nat) : Int)]
  | .un op a => [.int .i64 op, .ifc (a.tid cs) (.agg (a.pay cs))]
  | .bi op a b => [.int .i64 op, .ifc (a.tid cs) (.agg (a.pay cs)), .ifc (b.tid cs) (.agg (b.pay cs))]
def Xp.mth (cs : List Kol) : Xp → FuncId
  | .lit _ => 106
  | .col _ => 107
  | .un _ _ => 82
  | .bi _ _ _ => 87
theorem meth_x (cs : List Kol) (x : Xp) : Meth Tryd.prog (x.tid cs) "chirograph/eval.of" (x.mth cs) := by
  cases x with
  | lit v => intro v u w; show (callMethod (.iface 98 v) "chirograph/eval.of" #[u]).run Tryd.prog w = .ok (.enter 106 #[v, u]) w; kernel_rfl
  | col s => intro v u w; show (callMethod (.iface 100 v) "chirograph/eval.of" #[u]).run Tryd.prog w = .ok (.enter 107 #[v, u]) w; kernel_rfl
  | un op a => intro v u w; show (callMethod (.iface 94 v) "chirograph/eval.of" #[u]).run Tryd.prog w = .ok (.enter 82 #[v, u]) w; kernel_rfl
  | bi op a b => intro v u w; show (callMethod (.iface 96 v) "chirograph/eval.of" #[u]).run Tryd.prog w = .ok (.enter 87 #[v, u]) w; kernel_rfl
section
variable {E : Env} {n : Nat} {tm : List (Nat × AV)} {bx : List (Nat × Box)} {ops : Array Oper} {l : List Oper} {d : Tmp} {ty : TypeId} {pos : String} {after : Array Edge}
end
variable {g : Nat → Option (List PV)}
/-- What a thing says of a row. -/
def ThOk (g : Nat → Option (List PV)) (cs : List Kol) (row : List Vl) (x : Xp) : Prop := FnC (En Tryd.prog g) (x.mth cs) [.agg ((x.pay cs).map .pv), .pv (.lst 4 (row.map vlE))] (.tup [vlA (valP cs row x).1, .pv (.int .i64 (valP cs row x).2)]) []
theorem thLit (cs : List Kol) (row : List Vl) (v : Vl) : ThOk g cs row (.lit v) := by
  have hE := EnOk g
  unfold ThOk
  obtain ⟨vk, vn, vb, vs⟩ := v
  dsimp only [Xp.mth, Xp.pay, valP, vlA, List.map_cons, List.map_nil]
  exact FnC.go hE mixed Tryd.func106 []
theorem thCol {cs : List Kol} {row : List Vl} {s : ByteArray} {i : Nat} {v : Vl} (hi : idxC cs s = some i) (hv : row[i]? = some v) (hl : i ≤ 1000) : ThOk g cs row (.col s) := by
  have hE := EnOk g
  unfold ThOk
  have hat : (row.map vlE)[(i : Int).toNat]? = some (vlE v) := by rw [Int.toNat_natCast, List.getElem?_map, hv]; rfl
  have e : valP cs row (.col s) = (v, 0) := by simp only [valP, hi, List.getD_eq_getElem?_getD, hv, Option.getD_some]
  rw [e]
  have e2 : Xp.pay cs (.col s) = [.int .i64 (i : Int)] := by simp only [Xp.pay, hi, Option.getD_some]
  rw [e2]
  obtain ⟨vk, vn, vb, vs⟩ := v
  dsimp only [vlE] at hat
  dsimp only [Xp.mth, vlA, List.map_cons, List.map_nil]
  exact FnC.go hE mixed Tryd.func107 [(9, .el (PV.agg [PV.int IntKind.i64 vk, PV.int IntKind.i64 vn, PV.int IntKind.u64 vb, PV.str vs]))]
theorem thUn {cs : List Kol} {row : List Vl} {op : Int} {a : Xp} (ha : ThOk g cs row a) (h1 : (valP cs row a).2 = 0 → One op (valP cs row a).1) : ThOk g cs row (.un op a) := by
  have hE := EnOk g
  have hm := meth_x cs a
  unfold ThOk at ha ⊢
  dsimp only [Xp.mth, Xp.pay, List.map_cons, List.map_nil]
  simp only [valP]
  by_cases h0 : (valP cs row a).2 = 0
  ·
    rw [if_pos h0]
    have c2 := fnOne (g := g) (h1 h0)
    rw [h0] at ha
    generalize one1 op (valP cs row a).1 = r at *
    generalize (valP cs row a).1 = v at *
    obtain ⟨⟨rk, rn, rb, rs⟩, re⟩ := r
    obtain ⟨vk, vn, vb, vs⟩ := v
    dsimp only [vlA] at ha c2 ⊢
    exact FnC.go hE mixed Tryd.func82 [(12, .inv _ _ _ _ _ hm ha), (16, .b false), (22, .fn _ _ _ c2)]
  ·
    rw [if_neg h0]
    generalize (valP cs row a).2 = e at *
    generalize (valP cs row a).1 = v at *
    obtain ⟨vk, vn, vb, vs⟩ := v
    dsimp only [vlA] at ha ⊢
    exact FnC.go hE mixed Tryd.func82 [(12, .inv _ _ _ _ _ hm ha), (16, .b true)]
set_option maxHeartbeats 1000000 in
theorem thBi {cs : List Kol} {row : List Vl} {op : Int} {a b : Xp} (ha : ThOk g cs row a) (hb : ThOk g cs row b)
    (h2 : (valP cs row a).2 = 0 → (valP cs row b).2 = 0 → FnC (En Tryd.prog g) 88 [.pv (.int .i64 op), vlA (valP cs row a).1, vlA (valP cs row b).1] (.tup [vlA (two2 op (valP cs row a).1 (valP cs row b).1).1, .pv (.int .i64 (two2 op (valP cs row a).1 (valP cs row b).1).2)]) []) : ThOk g cs row (.bi op a b) := by
  have hE := EnOk g
  have hm := meth_x cs a
  have hn := meth_x cs b
  have ct0 := fnTruth (g := g) (t := 0) (by omega)
  have ct2 := fnTruth (g := g) (t := 2) (by omega)
  rw [show tru 0 = (⟨1, 0, 0, noS⟩ : Vl) from rfl] at ct0
  rw [show tru 2 = (⟨1, 1, 0, noS⟩ : Vl) from rfl] at ct2
  dsimp only [vlA] at ct0 ct2
  unfold ThOk at ha hb ⊢
  dsimp only [Xp.mth, Xp.pay, List.map_cons, List.map_nil]
  simp only [valP]
  by_cases h0 : (valP cs row a).2 = 0
  case neg =>
    rw [if_neg h0]
    clear h2 hb
    generalize (valP cs row a).2 = e at *
    generalize (valP cs row a).1 = v at *
    obtain ⟨vk, vn, vb, vs⟩ := v
    dsimp only [vlA] at ha ⊢
    exact FnC.go hE mixed Tryd.func87 [(13, .inv _ _ _ _ _ hm ha), (17, .b true)]
  rw [if_pos h0]
  have h2 := h2 h0
  rw [h0] at ha
  clear h0
  generalize (valP cs row a).1 = v at *
  obtain ⟨vk, vn, vb, vs⟩ := v
  dsimp only [vlA] at ha
  by_cases o20 : op = 20
  ·
    subst o20
    by_cases hk : vk = 0
    case neg =>
      rw [if_pos (by unfold short; simp [hk])]
      dsimp only [vlA]
      exact FnC.go hE mixed Tryd.func87 [(13, .inv _ _ _ _ _ hm ha), (17, .b false), (23, .b true), (27, .b true)]
    rw [if_neg (by unfold short; simp [hk])]
    by_cases e0 : (valP cs row b).2 = 0
    ·
      rw [if_pos e0]
      have h2 := h2 e0
      rw [e0] at hb
      generalize two2 _ _ (valP cs row b).1 = r at *
      generalize (valP cs row b).1 = w at *
      obtain ⟨⟨rk, rn, rb, rs⟩, re⟩ := r
      obtain ⟨wk, wn, wb, ws⟩ := w
      dsimp only [vlA] at hb h2 ⊢
      exact FnC.go hE mixed Tryd.func87 [(13, .inv _ _ _ _ _ hm ha), (17, .b false), (23, .b true), (27, .b false), (33, .b false), (41, .b false), (52, .inv _ _ _ _ _ hn hb), (56, .b false), (63, .fn _ _ _ h2)]
    ·
      rw [if_neg e0]
      clear h2
      generalize (valP cs row b).2 = e at *
      generalize (valP cs row b).1 = w at *
      obtain ⟨wk, wn, wb, ws⟩ := w
      dsimp only [vlA] at hb ⊢
      exact FnC.go hE mixed Tryd.func87 [(13, .inv _ _ _ _ _ hm ha), (17, .b false), (23, .b true), (27, .b false), (33, .b false), (41, .b false), (52, .inv _ _ _ _ _ hn hb), (56, .b true)]
  by_cases o15 : op = 15
  ·
    subst o15
    by_cases hs : (⟨vk, vn, vb, vs⟩ : Vl) = ⟨1, 0, 0, noS⟩
    ·
      have hq : sameV ⟨vk, vn, vb, vs⟩ ⟨1, 0, 0, noS⟩ = true := sameV_iff.2 hs
      rw [if_pos (by unfold short; rw [show tru 0 = (⟨1, 0, 0, noS⟩ : Vl) from rfl, hq]; simp)]
      clear hs
      dsimp only [vlA]
      exact FnC.go hE mixed Tryd.func87 [(13, .inv _ _ _ _ _ hm ha), (17, .b false), (23, .b false), (33, .b true), (36, .fn _ _ _ ct0), (37, hEq _ { kd := vk, n := vn, b := vb, s := vs } { kd := 1, n := 0, b := 0, s := noS } true)]
    have hq : sameV ⟨vk, vn, vb, vs⟩ ⟨1, 0, 0, noS⟩ = false := sameV_ne hs
    rw [if_neg (by unfold short; rw [show tru 0 = (⟨1, 0, 0, noS⟩ : Vl) from rfl, hq]; simp)]
    by_cases e0 : (valP cs row b).2 = 0
    ·
      rw [if_pos e0]
      have h2 := h2 e0
      rw [e0] at hb
      generalize two2 _ _ (valP cs row b).1 = r at *
      generalize (valP cs row b).1 = w at *
      obtain ⟨⟨rk, rn, rb, rs⟩, re⟩ := r
      obtain ⟨wk, wn, wb, ws⟩ := w
      dsimp only [vlA] at hb h2 ⊢
      exact FnC.go hE mixed Tryd.func87 [(13, .inv _ _ _ _ _ hm ha), (17, .b false), (23, .b false), (33, .b true), (36, .fn _ _ _ ct0), (37, hEq _ { kd := vk, n := vn, b := vb, s := vs } { kd := 1, n := 0, b := 0, s := noS } false), (41, .b false), (52, .inv _ _ _ _ _ hn hb), (56, .b false), (63, .fn _ _ _ h2)]
    ·
      rw [if_neg e0]
      clear h2
      generalize (valP cs row b).2 = e at *
      generalize (valP cs row b).1 = w at *
      obtain ⟨wk, wn, wb, ws⟩ := w
      dsimp only [vlA] at hb ⊢
      exact FnC.go hE mixed Tryd.func87 [(13, .inv _ _ _ _ _ hm ha), (17, .b false), (23, .b false), (33, .b true), (36, .fn _ _ _ ct0), (37, hEq _ { kd := vk, n := vn, b := vb, s := vs } { kd := 1, n := 0, b := 0, s := noS } false), (41, .b false), (52, .inv _ _ _ _ _ hn hb), (56, .b true)]
  by_cases o16 : op = 16
  ·
    subst o16
    by_cases hs : (⟨vk, vn, vb, vs⟩ : Vl) = ⟨1, 1, 0, noS⟩
    ·
      have hq : sameV ⟨vk, vn, vb, vs⟩ ⟨1, 1, 0, noS⟩ = true := sameV_iff.2 hs
      rw [if_pos (by unfold short; rw [show tru 2 = (⟨1, 1, 0, noS⟩ : Vl) from rfl, hq]; simp)]
      clear hs
      dsimp only [vlA]
      exact FnC.go hE mixed Tryd.func87 [(13, .inv _ _ _ _ _ hm ha), (17, .b false), (23, .b false), (33, .b false), (41, .b true), (44, .fn _ _ _ ct2), (45, hEq _ { kd := vk, n := vn, b := vb, s := vs } { kd := 1, n := 1, b := 0, s := noS } true)]
    have hq : sameV ⟨vk, vn, vb, vs⟩ ⟨1, 1, 0, noS⟩ = false := sameV_ne hs
    rw [if_neg (by unfold short; rw [show tru 2 = (⟨1, 1, 0, noS⟩ : Vl) from rfl, hq]; simp)]
    by_cases e0 : (valP cs row b).2 = 0
    ·
      rw [if_pos e0]
      have h2 := h2 e0
      rw [e0] at hb
      generalize two2 _ _ (valP cs row b).1 = r at *
      generalize (valP cs row b).1 = w at *
      obtain ⟨⟨rk, rn, rb, rs⟩, re⟩ := r
      obtain ⟨wk, wn, wb, ws⟩ := w
      dsimp only [vlA] at hb h2 ⊢
      exact FnC.go hE mixed Tryd.func87 [(13, .inv _ _ _ _ _ hm ha), (17, .b false), (23, .b false), (33, .b false), (41, .b true), (44, .fn _ _ _ ct2), (45, hEq _ { kd := vk, n := vn, b := vb, s := vs } { kd := 1, n := 1, b := 0, s := noS } false), (52, .inv _ _ _ _ _ hn hb), (56, .b false), (63, .fn _ _ _ h2)]
    ·
      rw [if_neg e0]
      clear h2
      generalize (valP cs row b).2 = e at *
      generalize (valP cs row b).1 = w at *
      obtain ⟨wk, wn, wb, ws⟩ := w
      dsimp only [vlA] at hb ⊢
      exact FnC.go hE mixed Tryd.func87 [(13, .inv _ _ _ _ _ hm ha), (17, .b false), (23, .b false), (33, .b false), (41, .b true), (44, .fn _ _ _ ct2), (45, hEq _ { kd := vk, n := vn, b := vb, s := vs } { kd := 1, n := 1, b := 0, s := noS } false), (52, .inv _ _ _ _ _ hn hb), (56, .b true)]
  rw [if_neg (by unfold short; simp [o20, o15, o16])]
  by_cases e0 : (valP cs row b).2 = 0
  ·
    rw [if_pos e0]
    have h2 := h2 e0
    rw [e0] at hb
    generalize two2 _ _ (valP cs row b).1 = r at *
    generalize (valP cs row b).1 = w at *
    obtain ⟨⟨rk, rn, rb, rs⟩, re⟩ := r
    obtain ⟨wk, wn, wb, ws⟩ := w
    dsimp only [vlA] at hb h2 ⊢
    exact FnC.go hE mixed Tryd.func87 [(13, .inv _ _ _ _ _ hm ha), (17, .b false), (23, .b false), (33, .b false), (41, .b false), (52, .inv _ _ _ _ _ hn hb), (56, .b false), (63, .fn _ _ _ h2)]
  ·
    rw [if_neg e0]
    clear h2
    generalize (valP cs row b).2 = e at *
    generalize (valP cs row b).1 = w at *
    obtain ⟨wk, wn, wb, ws⟩ := w
    dsimp only [vlA] at hb ⊢
    exact FnC.go hE mixed Tryd.func87 [(13, .inv _ _ _ _ _ hm ha), (17, .b false), (23, .b false), (33, .b false), (41, .b false), (52, .inv _ _ _ _ _ hn hb), (56, .b true)]
theorem thOk (hV : VStr g) {cs : List Kol} (hl : cs.length ≤ 5) {row : List Vl} (hr : RowOk cs row) {k : Int} {x : Xp} (h : Ty cs k x) : ThOk g cs row x := by
  induction h with
  | lit hv hn hk => exact thLit cs row _
  | @col c hf hn =>
    obtain ⟨i, h1, h2⟩ := idxC_of hf
    obtain ⟨hlt, _⟩ := List.getElem?_eq_some_iff.1 h2
    obtain ⟨v, hv⟩ : ∃ v, row[i]? = some v := ⟨_, List.getElem?_eq_getElem (by rw [hr.len]; exact hlt)⟩
    exact thCol h1 hv (by omega)
  | @un op k ka a h ha ih =>
    refine thUn ih fun h0 => ?_
    rcases val_ok hr ha with ⟨_, h2, h3⟩ | ⟨_, h2⟩
    · exact (one_ok h h2 h3).1
    · omega
  | @bi op k ka a b h ha hb ia ib =>
    refine thBi ia ib fun h0 h1 => ?_
    rcases val_ok hr ha with ⟨_, h2, h3⟩ | ⟨_, h2⟩
    · rcases val_ok hr hb with ⟨_, i2, i3⟩ | ⟨_, i2⟩
      · exact fnTwo hV h h2 i2 h3 i3
      · omega
    · omega
end Go.Proofs.YtdigejpgjnhclaaDoor.Vm
