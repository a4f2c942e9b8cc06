/- FoldSame: its walk. Conditions: none beyond the tables of utf8. -/
import Derived.Test.YtdigejpgjnhclaaDoorEvalE
import Derived.Test.YtdigejpgjnhclaaDoorRunes
import Derived.Lib.RuneCount
import Derived.Test.YtdigejpgjnhclaaDoorExecT
import Derived.Test.YtdigejpgjnhclaaDoorKindJ
section
section
namespace Go.Proofs.YtdigejpgjnhclaaDoor.Vm
open Go Go.RowKit Go.Lib
set_option linter.unusedVariables false
set_option linter.unusedSimpArgs false
theorem decodeN_ext {n n' b0 b1 b2 b3 c1 c2 c3 : Nat} (hn : n ≤ n') (h1 : 1 < n → c1 = b1) (h2 : 2 < n → c2 = b2) (h3 : 3 < n → c3 = b3) (h : decodeN n b0 b1 b2 b3 ≠ (65533, 1)) : decodeN n' b0 c1 c2 c3 = decodeN n b0 b1 b2 b3 := by
  unfold decodeN at h ⊢
  by_cases k1 : b0 < 128
  · rw [if_pos k1, if_pos k1]
  rw [if_neg k1] at h ⊢
  rw [if_neg k1]
  by_cases k2 : b0 / 32 = 6 ∧ (1 < n ∧ b1 / 64 = 2)
  · have e1 := h1 k2.2.1
    subst e1
    rw [if_pos k2, if_pos ⟨k2.1, by omega, k2.2.2⟩]
  rw [if_neg k2] at h ⊢
  by_cases k3 : b0 / 16 = 14 ∧ (1 < n ∧ b1 / 64 = 2) ∧ (2 < n ∧ b2 / 64 = 2)
  · have e1 := h1 k3.2.1.1
    have e2 := h2 k3.2.2.1
    subst e1
    subst e2
    rw [if_pos k3, if_neg (by omega), if_pos ⟨k3.1, ⟨by omega, k3.2.1.2⟩, by omega, k3.2.2.2⟩]
  rw [if_neg k3] at h ⊢
  by_cases k4 : b0 / 8 = 30 ∧ (1 < n ∧ b1 / 64 = 2) ∧ (2 < n ∧ b2 / 64 = 2) ∧ (3 < n ∧ b3 / 64 = 2)
  · have e1 := h1 k4.2.1.1
    have e2 := h2 k4.2.2.1.1
    have e3 := h3 k4.2.2.2.1
    subst e1
    subst e2
    subst e3
    rw [if_pos k4, if_neg (by omega), if_neg (by omega), if_pos ⟨k4.1, ⟨by omega, k4.2.1.2⟩, ⟨by omega, k4.2.2.1.2⟩, by omega, k4.2.2.2.2⟩]
  rw [if_neg k4] at h
  exact absurd rfl h
theorem decodeL_app {a t : List UInt8} (ha : a ≠ []) (h : ¬ ((decodeL a).1 = 65533 ∧ (decodeL a).2 = 1)) : decodeL (a ++ t) = decodeL a := by
  have h' : decodeL a ≠ (65533, 1) := fun e => h (by rw [e]; exact ⟨rfl, rfl⟩)
  rw [decodeL_N] at h' ⊢
  rw [decodeL_N a]
  have hg : ∀ i, i < a.length → (a ++ t).getD i 0 = a.getD i 0 := fun i hi => by
    simp [List.getD_eq_getElem?_getD, List.getElem?_append_left hi]
  have hpos : 0 < a.length := List.length_pos_iff.2 ha
  rw [hg 0 hpos]
  exact decodeN_ext (by simp) (fun h => by rw [hg 1 h]) (fun h => by rw [hg 2 h]) (fun h => by rw [hg 3 h]) h'
theorem validD_app : ∀ (k : Nat) (a t : List UInt8), a.length ≤ k → validD a = true → validD (a ++ t) = validD t
  | 0, a, t, hk, h => by
    have e : a = [] := List.eq_nil_of_length_eq_zero (by omega)
    rw [e, List.nil_append]
  | k + 1, a, t, hk, h => by
    by_cases ha : a = []
    · subst ha; rfl
    · have hpos : 0 < a.length := List.length_pos_iff.2 ha
      rw [validD_step a ha] at h
      by_cases he : (decodeL a).1 = 65533 ∧ (decodeL a).2 = 1
      · rw [if_pos he] at h; cases h
      · rw [if_neg he] at h
        have hw := decodeL_width a
        have hl := decodeL_le a ha
        rw [validD_step (a ++ t) (by simp [ha]), decodeL_app ha he, if_neg he, List.drop_append_of_le_length hl]
        exact validD_app k (a.drop (decodeL a).2) t (by rw [List.length_drop]; omega) h
theorem valid_append {s t : ByteArray} (hs : validD s.data.toList = true) (ht : validD t.data.toList = true) : validD (s ++ t).data.toList = true := by
  have e : (s ++ t).data.toList = s.data.toList ++ t.data.toList := by simp
  rw [e, validD_app _ _ _ (Nat.le_refl _) hs]
  exact ht
end Go.Proofs.YtdigejpgjnhclaaDoor.Vm
end
section
namespace Go.Proofs.YtdigejpgjnhclaaDoor.Vm
open Go Go.RowKit Go.Lib
set_option linter.unusedVariables false
set_option linter.unusedSimpArgs false
/-- A row that fits columns. -/
structure RowOk (cs : List Kol) (row : List Vl) : Prop where
  len : row.length = cs.length
  ok : ∀ (i : Nat) c v, cs[i]? = some c → row[i]? = some v → Good v ∧ (v.kd = c.kd ∨ (v.kd = 0 ∧ c.nl = true))
theorem idxC_of {cs : List Kol} {s : ByteArray} {c : Kol} (h : findC cs s = some c) : ∃ i, idxC cs s = some i ∧ cs[i]? = some c := by
  unfold findC at h
  unfold idxC
  induction cs with
  | nil => simp at h
  | cons d cs ih =>
    by_cases hq : (d.nm.toList == s.toList) = true
    · rw [List.find?_cons_of_pos (by simpa using hq)] at h
      refine ⟨0, ?_, by simpa using h⟩
      rw [List.findIdx?_cons, if_pos (by simpa using hq)]
    · rw [List.find?_cons_of_neg (by simpa using hq)] at h
      obtain ⟨i, h1, h2⟩ := ih h
      refine ⟨i + 1, ?_, by simpa using h2⟩
      rw [List.findIdx?_cons, if_neg (by simpa using hq), h1]
      rfl
theorem tru_good {t : Int} (h : t = 0 ∨ t = 1 ∨ t = 2) : Good (tru t) ∧ Of 1 (tru t) := by
  rcases h with rfl | rfl | rfl
  · exact ⟨.bool 0 (.inl rfl), .inl rfl⟩
  · exact ⟨.null, .inr rfl⟩
  · exact ⟨.bool 1 (.inr rfl), .inl rfl⟩
theorem cmpB_in (op : Int) (v w : Vl) : cmpB op v w = 0 ∨ cmpB op v w = 1 ∨ cmpB op v w = 2 := by
  have i1 := cmpT_in v w (decide (ordV v w < 0))
  have i2 := cmpT_in v w (decide (ordV v w = 0))
  have i3 := cmpT_in w v (decide (ordV w v < 0))
  unfold cmpB
  repeat' split
  all_goals omega
theorem vN_good {n : Int} (h : inR n) : Good (vN n) ∧ Of 2 (vN n) := ⟨.int n h, .inl rfl⟩
/-- A value with its fault: if there is none it is a good one of a kind, or nothing. -/
def ResOk (k : Int) (r : Vl × Int) : Prop := (r.2 = 0 ∧ Good r.1 ∧ Of k r.1) ∨ (r.1 = v0 ∧ (r.2 = 1 ∨ r.2 = 6 ∨ r.2 = 7))
theorem one_ok {op k ka : Int} (h : UnTy op k ka) {v : Vl} (hv : Good v) (hk : Of ka v) : One op v ∧ ResOk k (one1 op v) := by
  rcases h with ⟨rfl, rfl, rfl⟩ | ⟨rfl, rfl, rfl⟩ | ⟨rfl, rfl, rfl⟩ | ⟨rfl, rfl, h1, h2⟩
  · rcases good_num hv hk with rfl | ⟨n, hn, rfl⟩
    · exact ⟨.inr (.inr (.inr ⟨rfl, .inl rfl⟩)), .inl ⟨rfl, .null, .inr rfl⟩⟩
    · refine ⟨.inr (.inr (.inr ⟨rfl, .inr ⟨n, hn, rfl⟩⟩)), ?_⟩
      by_cases hm : n = -9223372036854775808
      · right
        have e : one1 3 (vN n) = (v0, 6) := by unfold one1 vN; simp [hm]
        rw [e]
        exact ⟨rfl, .inr (.inl rfl)⟩
      · left
        have e : one1 3 (vN n) = (vN (-n), 0) := by unfold one1 vN; simp [hm]
        rw [e]
        have := vN_good (n := -n) (by unfold inR at *; omega)
        exact ⟨rfl, this.1, this.2⟩
  · have hl := good_log hv hk
    refine ⟨.inr (.inl ⟨rfl, hl⟩), .inl ?_⟩
    rcases hl with rfl | ⟨n, hn, rfl⟩
    · exact ⟨rfl, .null, .inr rfl⟩
    · exact ⟨rfl, .bool (1 - n) (by omega), .inl rfl⟩
  · rcases good_txt hv hk with rfl | ⟨s, hs, hvd, rfl⟩
    · exact ⟨.inr (.inr (.inl ⟨rfl, .inl rfl⟩)), .inl ⟨rfl, .null, .inr rfl⟩⟩
    · refine ⟨.inr (.inr (.inl ⟨rfl, .inr ⟨s, by omega, rfl⟩⟩)), .inl ?_⟩
      have := Lib.runeCount_le s
      have := vN_good (n := Lib.runeCount s) (by unfold inR; omega)
      exact ⟨rfl, this.1, this.2⟩
  · refine ⟨.inl ⟨rfl, by omega⟩, .inl ?_⟩
    have e : one1 17 v = (vB (decide (v.kd = 0)), 0) := rfl
    rw [e]
    refine ⟨rfl, ?_, .inl rfl⟩
    unfold vB
    split
    · exact .bool 1 (.inr rfl)
    · exact .bool 0 (.inl rfl)
theorem reck_ok {op a b : Int} (ha : inR a) (hb : inR b) : ResOk 2 (reck op a b) := by
  have good : ∀ n, inR n → ResOk 2 (vN n, 0) := fun n h => .inl ⟨rfl, (vN_good h).1, (vN_good h).2⟩
  have bad : ResOk 2 (v0, 6) := .inr ⟨rfl, .inr (.inl rfl)⟩
  unfold reck
  split
  · split
    · exact good _ (by assumption)
    · exact bad
  · split
    · split
      · exact good _ (by assumption)
      · exact bad
    · split
      · split
        · exact good _ (by assumption)
        · exact bad
      · split
        · exact .inr ⟨rfl, .inr (.inr rfl)⟩
        · split
          · exact good _ (by assumption)
          · exact bad
theorem two_ok {op k ka : Int} (h : BiTy op k ka) {v w : Vl} (hv : Good v) (hw : Good w) (kv : Of ka v) (kw : Of ka w) : ResOk k (two2 op v w) := by
  rcases h with ⟨h5, h8, rfl, rfl⟩ | ⟨h15, h16, rfl, rfl⟩ | ⟨rfl, rfl, rfl⟩ | ⟨rfl, rfl⟩ | ⟨h9, h14, rfl, hk1, hk2⟩
  · have e : two2 op v w = if v.kd = 0 ∨ w.kd = 0 then (v0, 0) else reck op v.n w.n := by
      unfold two2; rw [if_neg (by omega), if_neg (by omega), if_neg (by omega), if_neg (by omega), if_pos ⟨h5, h8⟩]
    rw [e]
    by_cases hn : v.kd = 0 ∨ w.kd = 0
    · rw [if_pos hn]; exact .inl ⟨rfl, .null, .inr rfl⟩
    · rw [if_neg hn]
      rcases good_num hv kv with rfl | ⟨a, ha, rfl⟩
      · exact absurd (.inl rfl) hn
      rcases good_num hw kw with rfl | ⟨b, hb, rfl⟩
      · exact absurd (.inr rfl) hn
      exact reck_ok ha hb
  · have p1 := prt_in (good_log hv kv)
    have p2 := prt_in (good_log hw kw)
    have ho : op = 15 ∨ op = 16 := by omega
    rcases ho with rfl | rfl
    · have := tru_good (t := minP (prt v) (prt w)) (by unfold minP; split <;> omega)
      exact .inl ⟨rfl, this.1, this.2⟩
    · have := tru_good (t := maxP (prt v) (prt w)) (by unfold maxP; split <;> omega)
      exact .inl ⟨rfl, this.1, this.2⟩
  · have e : two2 19 v w = if v.kd = 0 ∨ w.kd = 0 then (v0, 0) else joinP v.s w.s := rfl
    rw [e]
    by_cases hn : v.kd = 0 ∨ w.kd = 0
    · rw [if_pos hn]; exact .inl ⟨rfl, .null, .inr rfl⟩
    · rw [if_neg hn]
      rcases good_txt hv kv with rfl | ⟨a, ha, va, rfl⟩
      · exact absurd (.inl rfl) hn
      rcases good_txt hw kw with rfl | ⟨b, hb, vb, rfl⟩
      · exact absurd (.inr rfl) hn
      unfold joinP vS
      dsimp only
      split
      · exact .inr ⟨rfl, .inl rfl⟩
      · refine .inl ⟨rfl, .text _ ?_ (valid_append va vb), .inl rfl⟩
        rw [ByteArray.size_append]
        omega
  · exact .inl ⟨rfl, hw, kw⟩
  · have e : two2 op v w = (tru (cmpB op v w), 0) := by
      unfold two2; rw [if_neg (by omega), if_neg (by omega), if_neg (by omega), if_neg (by omega), if_neg (by omega)]
    rw [e]
    have := tru_good (cmpB_in op v w)
    exact .inl ⟨rfl, this.1, this.2⟩
theorem val_ok {cs : List Kol} {row : List Vl} (hr : RowOk cs row) {k : Int} {x : Xp} (h : Ty cs k x) : ResOk k (valP cs row x) := by
  induction h with
  | lit hv hn hk => exact .inl ⟨rfl, hv, hk⟩
  | @col c hf hn =>
    obtain ⟨i, h1, h2⟩ := idxC_of hf
    obtain ⟨hlt, _⟩ := List.getElem?_eq_some_iff.1 h2
    obtain ⟨v, hv⟩ : ∃ v, row[i]? = some v := ⟨_, List.getElem?_eq_getElem (by rw [hr.len]; exact hlt)⟩
    have e : valP cs row (.col c.nm) = (v, 0) := by
      simp only [valP, h1, List.getD_eq_getElem?_getD, hv, Option.getD_some]
    rw [e]
    obtain ⟨h3, h4⟩ := hr.ok i c v h2 hv
    exact .inl ⟨rfl, h3, h4.imp id (fun h => h.1)⟩
  | @un op k ka a h ha ih =>
    rcases ih with ⟨h1, h2, h3⟩ | ⟨h1, h2⟩
    · have e : valP cs row (.un op a) = one1 op (valP cs row a).1 := by simp only [valP]; rw [if_pos h1]
      rw [e]
      exact (one_ok h h2 h3).2
    · have e : valP cs row (.un op a) = (v0, (valP cs row a).2) := by simp only [valP]; rw [if_neg (by omega)]
      rw [e]
      exact .inr ⟨rfl, h2⟩
  | @bi op k ka a b h ha hb ia ib =>
    rcases ia with ⟨h1, h2, h3⟩ | ⟨h1, h2⟩
    · by_cases hs : short op (valP cs row a).1 = true
      · have e : valP cs row (.bi op a b) = ((valP cs row a).1, 0) := by simp only [valP]; rw [if_pos h1, if_pos hs]
        rw [e]
        refine .inl ⟨rfl, h2, ?_⟩
        have hop : op = 20 ∨ op = 15 ∨ op = 16 := by
          unfold short at hs
          simp only [Bool.or_eq_true, Bool.and_eq_true, decide_eq_true_eq] at hs
          omega
        unfold BiTy at h
        have : ka = k := by omega
        rw [← this]; exact h3
      · rcases ib with ⟨i1, i2, i3⟩ | ⟨i1, i2⟩
        · have e : valP cs row (.bi op a b) = two2 op (valP cs row a).1 (valP cs row b).1 := by simp only [valP]; rw [if_pos h1, if_neg hs, if_pos i1]
          rw [e]
          exact two_ok h h2 i2 h3 i3
        · have e : valP cs row (.bi op a b) = (v0, (valP cs row b).2) := by simp only [valP]; rw [if_pos h1, if_neg hs, if_neg (by omega)]
          rw [e]
          exact .inr ⟨rfl, i2⟩
    · have e : valP cs row (.bi op a b) = (v0, (valP cs row a).2) := by simp only [valP]; rw [if_neg (by omega)]
      rw [e]
      exact .inr ⟨rfl, h2⟩
end Go.Proofs.YtdigejpgjnhclaaDoor.Vm
end
end
section
section
section
namespace Go.Proofs.YtdigejpgjnhclaaDoor.Vm
open Go Go.RowKit Go.Lib
set_option linter.unusedVariables false
set_option linter.unusedSimpArgs false
attribute [local irreducible] Ops Dr Run
/-- The type of the thing that an expression is made ready as. -/
def Xp.tid (cs : List Kol) : Xp → TypeId
  | .lit _ => 98
  | .col _ => 100
  | .un _ _ => 94
  | .bi _ _ _ => 96
def Xp.pay (cs : List Kol) : Xp → List PV
  | .lit v => [.int .i64 v.kd, .int .i64 v.n, .int .u64 v.b, .str v.s]
  | .col s => [.int .i64 (((idxC cs s).getD 0 : Nat) : Int)]
  | .un op a => [.int .i64 op, .ifc (a.tid cs) (.agg (a.pay cs))]
  | .bi op a b => [.int .i64 op, .ifc (a.tid cs) (.agg (a.pay cs)), .ifc (b.tid cs) (.agg (b.pay cs))]
def Xp.mth (cs : List Kol) : Xp → FuncId
  | .lit _ => 106
  | .col _ => 107
  | .un _ _ => 82
  | .bi _ _ _ => 87
theorem meth_x (cs : List Kol) (x : Xp) : Meth Tryd.prog (x.tid cs) "chirograph/eval.of" (x.mth cs) := by
  cases x with
  | lit v => intro v u w; show (callMethod (.iface 98 v) "chirograph/eval.of" #[u]).run Tryd.prog w = .ok (.enter 106 #[v, u]) w; kernel_rfl
  | col s => intro v u w; show (callMethod (.iface 100 v) "chirograph/eval.of" #[u]).run Tryd.prog w = .ok (.enter 107 #[v, u]) w; kernel_rfl
  | un op a => intro v u w; show (callMethod (.iface 94 v) "chirograph/eval.of" #[u]).run Tryd.prog w = .ok (.enter 82 #[v, u]) w; kernel_rfl
  | bi op a b => intro v u w; show (callMethod (.iface 96 v) "chirograph/eval.of" #[u]).run Tryd.prog w = .ok (.enter 87 #[v, u]) w; kernel_rfl
section
variable {E : Env} {n : Nat} {tm : List (Nat × AV)} {bx : List (Nat × Box)} {ops : Array Oper} {l : List Oper} {d : Tmp} {ty : TypeId} {pos : String} {after : Array Edge}
end
variable {g : Nat → Option (List PV)}
/-- What a thing says of a row. -/
def ThOk (g : Nat → Option (List PV)) (cs : List Kol) (row : List Vl) (x : Xp) : Prop := FnC (En Tryd.prog g) (x.mth cs) [.agg ((x.pay cs).map .pv), .pv (.lst 4 (row.map vlE))] (.tup [vlA (valP cs row x).1, .pv (.int .i64 (valP cs row x).2)]) []
/-- The same for any list of cells that is handed over. -/
def ThV (g : Nat → Option (List PV)) (rv : PV) (cs : List Kol) (row : List Vl) (x : Xp) : Prop := FnC (En Tryd.prog g) (x.mth cs) [.agg ((x.pay cs).map .pv), .pv rv] (.tup [vlA (valP cs row x).1, .pv (.int .i64 (valP cs row x).2)]) []
theorem thLit (rv : PV) (cs : List Kol) (row : List Vl) (v : Vl) : ThV g rv cs row (.lit v) := by
  have hE := EnOk g
  unfold ThV
  obtain ⟨vk, vn, vb, vs⟩ := v
  dsimp only [Xp.mth, Xp.pay, valP, vlA, List.map_cons, List.map_nil]
  exact FnC.go hE mixed Tryd.func106 []
theorem thCol {cs : List Kol} {row : List Vl} {s : ByteArray} {i : Nat} {v : Vl} (hi : idxC cs s = some i) (hv : row[i]? = some v) (hl : i ≤ 1000) : ThOk g cs row (.col s) := by
  have hE := EnOk g
  unfold ThOk
  have hat : (row.map vlE)[(i : Int).toNat]? = some (vlE v) := by rw [Int.toNat_natCast, List.getElem?_map, hv]; rfl
  have e : valP cs row (.col s) = (v, 0) := by simp only [valP, hi, List.getD_eq_getElem?_getD, hv, Option.getD_some]
  rw [e]
  have e2 : Xp.pay cs (.col s) = [.int .i64 (i : Int)] := by simp only [Xp.pay, hi, Option.getD_some]
  rw [e2]
  obtain ⟨vk, vn, vb, vs⟩ := v
  dsimp only [vlE] at hat
  dsimp only [Xp.mth, vlA, List.map_cons, List.map_nil]
  exact FnC.go hE mixed Tryd.func107 [(9, .el (PV.agg [PV.int IntKind.i64 vk, PV.int IntKind.i64 vn, PV.int IntKind.u64 vb, PV.str vs]))]
theorem thUn {rv : PV} {cs : List Kol} {row : List Vl} {op : Int} {a : Xp} (ha : ThV g rv cs row a) (h1 : (valP cs row a).2 = 0 → One op (valP cs row a).1) : ThV g rv cs row (.un op a) := by
  have hE := EnOk g
  have hm := meth_x cs a
  unfold ThV at ha ⊢
  dsimp only [Xp.mth, Xp.pay, List.map_cons, List.map_nil]
  simp only [valP]
  by_cases h0 : (valP cs row a).2 = 0
  ·
    rw [if_pos h0]
    have c2 := fnOne (g := g) (h1 h0)
    rw [h0] at ha
    generalize one1 op (valP cs row a).1 = r at *
    generalize (valP cs row a).1 = v at *
    obtain ⟨⟨rk, rn, rb, rs⟩, re⟩ := r
    obtain ⟨vk, vn, vb, vs⟩ := v
    dsimp only [vlA] at ha c2 ⊢
    exact FnC.go hE mixed Tryd.func82 [(12, .inv _ _ _ _ _ hm ha), (16, .b false), (22, .fn _ _ _ c2)]
  ·
    rw [if_neg h0]
    generalize (valP cs row a).2 = e at *
    generalize (valP cs row a).1 = v at *
    obtain ⟨vk, vn, vb, vs⟩ := v
    dsimp only [vlA] at ha ⊢
    exact FnC.go hE mixed Tryd.func82 [(12, .inv _ _ _ _ _ hm ha), (16, .b true)]
set_option maxHeartbeats 1000000 in
theorem thBi {rv : PV} {cs : List Kol} {row : List Vl} {op : Int} {a b : Xp} (ha : ThV g rv cs row a) (hb : ThV g rv cs row b)
    (h2 : (valP cs row a).2 = 0 → (valP cs row b).2 = 0 → FnC (En Tryd.prog g) 88 [.pv (.int .i64 op), vlA (valP cs row a).1, vlA (valP cs row b).1] (.tup [vlA (two2 op (valP cs row a).1 (valP cs row b).1).1, .pv (.int .i64 (two2 op (valP cs row a).1 (valP cs row b).1).2)]) []) : ThV g rv cs row (.bi op a b) := by
  have hE := EnOk g
  have hm := meth_x cs a
  have hn := meth_x cs b
  have ct0 := fnTruth (g := g) (t := 0) (by omega)
  have ct2 := fnTruth (g := g) (t := 2) (by omega)
  rw [show tru 0 = (⟨1, 0, 0, noS⟩ : Vl) from rfl] at ct0
  rw [show tru 2 = (⟨1, 1, 0, noS⟩ : Vl) from rfl] at ct2
  dsimp only [vlA] at ct0 ct2
  unfold ThV at ha hb ⊢
  dsimp only [Xp.mth, Xp.pay, List.map_cons, List.map_nil]
  simp only [valP]
  by_cases h0 : (valP cs row a).2 = 0
  case neg =>
    rw [if_neg h0]
    clear h2 hb
    generalize (valP cs row a).2 = e at *
    generalize (valP cs row a).1 = v at *
    obtain ⟨vk, vn, vb, vs⟩ := v
    dsimp only [vlA] at ha ⊢
    exact FnC.go hE mixed Tryd.func87 [(13, .inv _ _ _ _ _ hm ha), (17, .b true)]
  rw [if_pos h0]
  have h2 := h2 h0
  rw [h0] at ha
  clear h0
  generalize (valP cs row a).1 = v at *
  obtain ⟨vk, vn, vb, vs⟩ := v
  dsimp only [vlA] at ha
  by_cases o20 : op = 20
  ·
    subst o20
    by_cases hk : vk = 0
    case neg =>
      rw [if_pos (by unfold short; simp [hk])]
      dsimp only [vlA]
      exact FnC.go hE mixed Tryd.func87 [(13, .inv _ _ _ _ _ hm ha), (17, .b false), (23, .b true), (27, .b true)]
    rw [if_neg (by unfold short; simp [hk])]
    by_cases e0 : (valP cs row b).2 = 0
    ·
      rw [if_pos e0]
      have h2 := h2 e0
      rw [e0] at hb
      generalize two2 _ _ (valP cs row b).1 = r at *
      generalize (valP cs row b).1 = w at *
      obtain ⟨⟨rk, rn, rb, rs⟩, re⟩ := r
      obtain ⟨wk, wn, wb, ws⟩ := w
      dsimp only [vlA] at hb h2 ⊢
      exact FnC.go hE mixed Tryd.func87 [(13, .inv _ _ _ _ _ hm ha), (17, .b false), (23, .b true), (27, .b false), (33, .b false), (41, .b false), (52, .inv _ _ _ _ _ hn hb), (56, .b false), (63, .fn _ _ _ h2)]
    ·
      rw [if_neg e0]
      clear h2
      generalize (valP cs row b).2 = e at *
      generalize (valP cs row b).1 = w at *
      obtain ⟨wk, wn, wb, ws⟩ := w
      dsimp only [vlA] at hb ⊢
      exact FnC.go hE mixed Tryd.func87 [(13, .inv _ _ _ _ _ hm ha), (17, .b false), (23, .b true), (27, .b false), (33, .b false), (41, .b false), (52, .inv _ _ _ _ _ hn hb), (56, .b true)]
  by_cases o15 : op = 15
  ·
    subst o15
    by_cases hs : (⟨vk, vn, vb, vs⟩ : Vl) = ⟨1, 0, 0, noS⟩
    ·
      have hq : sameV ⟨vk, vn, vb, vs⟩ ⟨1, 0, 0, noS⟩ = true := sameV_iff.2 hs
      rw [if_pos (by unfold short; rw [show tru 0 = (⟨1, 0, 0, noS⟩ : Vl) from rfl, hq]; simp)]
      clear hs
      dsimp only [vlA]
      exact FnC.go hE mixed Tryd.func87 [(13, .inv _ _ _ _ _ hm ha), (17, .b false), (23, .b false), (33, .b true), (36, .fn _ _ _ ct0), (37, hEq _ { kd := vk, n := vn, b := vb, s := vs } { kd := 1, n := 0, b := 0, s := noS } true)]
    have hq : sameV ⟨vk, vn, vb, vs⟩ ⟨1, 0, 0, noS⟩ = false := sameV_ne hs
    rw [if_neg (by unfold short; rw [show tru 0 = (⟨1, 0, 0, noS⟩ : Vl) from rfl, hq]; simp)]
    by_cases e0 : (valP cs row b).2 = 0
    ·
      rw [if_pos e0]
      have h2 := h2 e0
      rw [e0] at hb
      generalize two2 _ _ (valP cs row b).1 = r at *
      generalize (valP cs row b).1 = w at *
      obtain ⟨⟨rk, rn, rb, rs⟩, re⟩ := r
      obtain ⟨wk, wn, wb, ws⟩ := w
      dsimp only [vlA] at hb h2 ⊢
      exact FnC.go hE mixed Tryd.func87 [(13, .inv _ _ _ _ _ hm ha), (17, .b false), (23, .b false), (33, .b true), (36, .fn _ _ _ ct0), (37, hEq _ { kd := vk, n := vn, b := vb, s := vs } { kd := 1, n := 0, b := 0, s := noS } false), (41, .b false), (52, .inv _ _ _ _ _ hn hb), (56, .b false), (63, .fn _ _ _ h2)]
    ·
      rw [if_neg e0]
      clear h2
      generalize (valP cs row b).2 = e at *
      generalize (valP cs row b).1 = w at *
      obtain ⟨wk, wn, wb, ws⟩ := w
      dsimp only [vlA] at hb ⊢
      exact FnC.go hE mixed Tryd.func87 [(13, .inv _ _ _ _ _ hm ha), (17, .b false), (23, .b false), (33, .b true), (36, .fn _ _ _ ct0), (37, hEq _ { kd := vk, n := vn, b := vb, s := vs } { kd := 1, n := 0, b := 0, s := noS } false), (41, .b false), (52, .inv _ _ _ _ _ hn hb), (56, .b true)]
  by_cases o16 : op = 16
  ·
    subst o16
    by_cases hs : (⟨vk, vn, vb, vs⟩ : Vl) = ⟨1, 1, 0, noS⟩
    ·
      have hq : sameV ⟨vk, vn, vb, vs⟩ ⟨1, 1, 0, noS⟩ = true := sameV_iff.2 hs
      rw [if_pos (by unfold short; rw [show tru 2 = (⟨1, 1, 0, noS⟩ : Vl) from rfl, hq]; simp)]
      clear hs
      dsimp only [vlA]
      exact FnC.go hE mixed Tryd.func87 [(13, .inv _ _ _ _ _ hm ha), (17, .b false), (23, .b false), (33, .b false), (41, .b true), (44, .fn _ _ _ ct2), (45, hEq _ { kd := vk, n := vn, b := vb, s := vs } { kd := 1, n := 1, b := 0, s := noS } true)]
    have hq : sameV ⟨vk, vn, vb, vs⟩ ⟨1, 1, 0, noS⟩ = false := sameV_ne hs
    rw [if_neg (by unfold short; rw [show tru 2 = (⟨1, 1, 0, noS⟩ : Vl) from rfl, hq]; simp)]
    by_cases e0 : (valP cs row b).2 = 0
    ·
      rw [if_pos e0]
      have h2 := h2 e0
      rw [e0] at hb
      generalize two2 _ _ (valP cs row b).1 = r at *
      generalize (valP cs row b).1 = w at *
      obtain ⟨⟨rk, rn, rb, rs⟩, re⟩ := r
      obtain ⟨wk, wn, wb, ws⟩ := w
      dsimp only [vlA] at hb h2 ⊢
      exact FnC.go hE mixed Tryd.func87 [(13, .inv _ _ _ _ _ hm ha), (17, .b false), (23, .b false), (33, .b false), (41, .b true), (44, .fn _ _ _ ct2), (45, hEq _ { kd := vk, n := vn, b := vb, s := vs } { kd := 1, n := 1, b := 0, s := noS } false), (52, .inv _ _ _ _ _ hn hb), (56, .b false), (63, .fn _ _ _ h2)]
    ·
      rw [if_neg e0]
      clear h2
      generalize (valP cs row b).2 = e at *
      generalize (valP cs row b).1 = w at *
      obtain ⟨wk, wn, wb, ws⟩ := w
      dsimp only [vlA] at hb ⊢
      exact FnC.go hE mixed Tryd.func87 [(13, .inv _ _ _ _ _ hm ha), (17, .b false), (23, .b false), (33, .b false), (41, .b true), (44, .fn _ _ _ ct2), (45, hEq _ { kd := vk, n := vn, b := vb, s := vs } { kd := 1, n := 1, b := 0, s := noS } false), (52, .inv _ _ _ _ _ hn hb), (56, .b true)]
  rw [if_neg (by unfold short; simp [o20, o15, o16])]
  by_cases e0 : (valP cs row b).2 = 0
  ·
    rw [if_pos e0]
    have h2 := h2 e0
    rw [e0] at hb
    generalize two2 _ _ (valP cs row b).1 = r at *
    generalize (valP cs row b).1 = w at *
    obtain ⟨⟨rk, rn, rb, rs⟩, re⟩ := r
    obtain ⟨wk, wn, wb, ws⟩ := w
    dsimp only [vlA] at hb h2 ⊢
    exact FnC.go hE mixed Tryd.func87 [(13, .inv _ _ _ _ _ hm ha), (17, .b false), (23, .b false), (33, .b false), (41, .b false), (52, .inv _ _ _ _ _ hn hb), (56, .b false), (63, .fn _ _ _ h2)]
  ·
    rw [if_neg e0]
    clear h2
    generalize (valP cs row b).2 = e at *
    generalize (valP cs row b).1 = w at *
    obtain ⟨wk, wn, wb, ws⟩ := w
    dsimp only [vlA] at hb ⊢
    exact FnC.go hE mixed Tryd.func87 [(13, .inv _ _ _ _ _ hm ha), (17, .b false), (23, .b false), (33, .b false), (41, .b false), (52, .inv _ _ _ _ _ hn hb), (56, .b true)]
theorem thOk (hV : VStr g) {cs : List Kol} (hl : cs.length ≤ 5) {row : List Vl} (hr : RowOk cs row) {k : Int} {x : Xp} (h : Ty cs k x) : ThOk g cs row x := by
  induction h with
  | lit hv hn hk => exact thLit _ cs row _
  | @col c hf hn =>
    obtain ⟨i, h1, h2⟩ := idxC_of hf
    obtain ⟨hlt, _⟩ := List.getElem?_eq_some_iff.1 h2
    obtain ⟨v, hv⟩ : ∃ v, row[i]? = some v := ⟨_, List.getElem?_eq_getElem (by rw [hr.len]; exact hlt)⟩
    exact thCol h1 hv (by omega)
  | @un op k ka a h ha ih =>
    refine thUn ih fun h0 => ?_
    rcases val_ok hr ha with ⟨_, h2, h3⟩ | ⟨_, h2⟩
    · exact (one_ok h h2 h3).1
    · omega
  | @bi op k ka a b h ha hb ia ib =>
    refine thBi ia ib fun h0 h1 => ?_
    rcases val_ok hr ha with ⟨_, h2, h3⟩ | ⟨_, h2⟩
    · rcases val_ok hr hb with ⟨_, i2, i3⟩ | ⟨_, i2⟩
      · exact fnTwo hV h h2 i2 h3 i3
      · omega
    · omega
/-- What names no column is reckoned without a row. -/
theorem thNil (hV : VStr g) {k : Int} {x : Xp} (h : Ty [] k x) : ThV g .nil [] [] x := by
  have hr : RowOk [] [] := ⟨rfl, fun i c v hc => by simp at hc⟩
  induction h with
  | lit hv hn hk => exact thLit _ [] [] _
  | col hf hn => unfold findC at hf; simp at hf
  | @un op k ka a h ha ih =>
    refine thUn ih fun h0 => ?_
    rcases val_ok hr ha with ⟨_, h2, h3⟩ | ⟨_, h2⟩
    · exact (one_ok h h2 h3).1
    · omega
  | @bi op k ka a b h ha hb ia ib =>
    refine thBi ia ib fun h0 h1 => ?_
    rcases val_ok hr ha with ⟨_, h2, h3⟩ | ⟨_, h2⟩
    · rcases val_ok hr hb with ⟨_, i2, i3⟩ | ⟨_, i2⟩
      · exact fnTwo hV h h2 i2 h3 i3
      · omega
    · omega
end Go.Proofs.YtdigejpgjnhclaaDoor.Vm
end
section
namespace Go.Proofs.YtdigejpgjnhclaaDoor.Vm
open Go Go.RowKit Go.Lib
set_option linter.unusedVariables false
set_option linter.unusedSimpArgs false
attribute [local irreducible] Ops Dr Run
variable {g : Nat → Option (List PV)}
theorem fnKFits (hV : VStr g) {cs : List Kol} (hc : ColsOk cs) {row : List Vl} (hr : RowOk cs row) : FnC (En Tryd.prog g) 43 [.pv (.lst 4 (row.map vlE)), .pv (.lst 3 (cs.map kolE))] (.pv (.int .i64 0)) [] := by
  have hE := EnOk g
  have c1 := fnColumns (g := g) hc
  have hlen := hc.len
  obtain ⟨hrl, hrok⟩ := hr
  have l1 : ((row.map vlE).length : Int) = (cs.length : Int) := by rw [List.length_map, hrl]
  have l2 : ((cs.map kolE).length : Int) = (cs.length : Int) := by rw [List.length_map]
  refine FnC.at hE mixed Tryd.func43 [(10, .fn _ _ _ c1), (12, .b false), (15, .w ↑cs.length), (17, .w ↑cs.length), (18, .b false), (20, .w ↑cs.length)] ?_
  refine Run.inv (ι := Nat) (fun j => j ≤ cs.length)
    (fun j => ⟨58, [(1, .pv (.lst 3 (cs.map kolE))), (19, .pv (.lst 4 (row.map vlE))), (20, .pv (.int .i64 cs.length)), (21, .pv (.int .i64 j))], []⟩) (fun j => cs.length - j) 0 (by omega) SLe.to ?_
  rintro j hj ih
  by_cases hlt : j < cs.length
  ·
    obtain ⟨c, hc0⟩ : ∃ c, cs[j]? = some c := ⟨_, List.getElem?_eq_getElem hlt⟩
    obtain ⟨v, hv0⟩ : ∃ v, row[j]? = some v := ⟨_, List.getElem?_eq_getElem (by omega)⟩
    obtain ⟨hg, hk⟩ := hrok j c v hc0 hv0
    have hat2 := kol_at hc0
    have hat : (row.map vlE)[(j : Int).toNat]? = some (vlE v) := by rw [Int.toNat_natCast, List.getElem?_map, hv0]; rfl
    have cv := fnCheck hV hg
    clear hg
    obtain ⟨ck, ckd, cnl⟩ := c
    obtain ⟨vk, vn, vb, vs⟩ := v
    dsimp only [vlE] at hat
    dsimp only [vlA] at cv
    dsimp only [kolE] at hat2
    dsimp only at hk
    by_cases h0 : vk = 0
    ·
      by_cases hn : cnl = true
      case neg => exact absurd (hk.elim (fun h => h) (fun h => absurd h.2 hn)) (fun h => by have := (hc.ok _ (List.mem_of_getElem? hc0)).2; dsimp only at this; omega)
      subst hn
      refine Run.end hE mixed [(22, .b true), (24, .el (PV.agg [PV.int IntKind.i64 vk, PV.int IntKind.i64 vn, PV.int IntKind.u64 vb, PV.str vs])), (27, .fn _ _ _ cv), (29, .b false), (34, .b true), (38, .el (PV.agg [PV.str ck, PV.int IntKind.i64 ckd, PV.bool true])), (46, .b false)] ?_
      exact ih (j + 1) _ SLe.to (by omega) (by omega)
    ·
      have hkk : vk = ckd := hk.elim id (fun h => absurd h.1 h0)
      refine Run.end hE mixed [(22, .b true), (24, .el (PV.agg [PV.int IntKind.i64 vk, PV.int IntKind.i64 vn, PV.int IntKind.u64 vb, PV.str vs])), (27, .fn _ _ _ cv), (29, .b false), (34, .b false), (46, .b true), (52, .el (PV.agg [PV.str ck, PV.int IntKind.i64 ckd, PV.bool cnl])), (55, .b false)] ?_
      exact ih (j + 1) _ SLe.to (by omega) (by omega)
  obtain rfl : j = cs.length := by omega
  refine Run.end hE mixed [(22, .b false)] ?_
  exact End.go hE
theorem fnKRow (hV : VStr g) {cs : List Kol} (hc : ColsOk cs) {row : List Vl} (hr : RowOk cs row) : FnC (En Tryd.prog g) 32 [.pv (.lst 4 (row.map vlE)), .pv (.lst 3 (cs.map kolE))] (.pv (.int .i64 0)) [] := by
  have hE := EnOk g
  have c1 := fnKFits hV hc hr
  exact FnC.go hE mixed Tryd.func32 [(7, .fn _ _ _ c1)]
/-- What an expression is made ready as. -/
abbrev thE (cs : List Kol) (x : Xp) : PV := .ifc (x.tid cs) (.agg (x.pay cs))
def ToOk (g : Nat → Option (List PV)) (cs : List Kol) (x : Xp) : Prop := FnC (En Tryd.prog g) 36 [xA x, .pv (.lst 3 (cs.map kolE))] (.pv (thE cs x)) []
theorem toLit (cs : List Kol) (v : Vl) : ToOk g cs (.lit v) := by
  have hE := EnOk g
  unfold ToOk
  obtain ⟨vk, vn, vb, vs⟩ := v
  dsimp only [xA, Xp.op, Xp.v, Xp.nm, Xp.as, thE, Xp.tid, Xp.pay]
  exact FnC.go hE mixed Tryd.func36 [(11, .b false), (23, .b false), (42, .b true)]
theorem toUn {cs : List Kol} {op : Int} {a : Xp} (ha : ToOk g cs a) : ToOk g cs (.un op a) := by
  have hE := EnOk g
  unfold ToOk at ha ⊢
  have hat : ([xE a] : List PV)[(0 : Int).toNat]? = some (xE a) := rfl
  dsimp only [xA, Xp.op, Xp.v, Xp.nm, Xp.as, thE, Xp.tid, Xp.pay] at ha ⊢
  exact FnC.go hE mixed Tryd.func36 [(11, .b true), (19, .fn _ _ _ ha)]
theorem toBi {cs : List Kol} {op : Int} {a b : Xp} (ha : ToOk g cs a) (hb : ToOk g cs b) : ToOk g cs (.bi op a b) := by
  have hE := EnOk g
  unfold ToOk at ha hb ⊢
  have hat0 : ([xE a, xE b] : List PV)[(0 : Int).toNat]? = some (xE a) := rfl
  have hat1 : ([xE a, xE b] : List PV)[(1 : Int).toNat]? = some (xE b) := rfl
  dsimp only [xA, Xp.op, Xp.v, Xp.nm, Xp.as, thE, Xp.tid, Xp.pay] at ha hb ⊢
  exact FnC.go hE mixed Tryd.func36 [(23, .b true), (31, .fn _ _ _ ha), (37, .fn _ _ _ hb)]
theorem toCol {cs : List Kol} (hl : cs.length ≤ 5) {s : ByteArray} {i : Nat} (hi : idxC cs s = some i) : ToOk g cs (.col s) := by
  have hE := EnOk g
  unfold ToOk
  have hlm : ((cs.map kolE).length : Int) = cs.length := by simp
  obtain ⟨hil, hi1, hi2⟩ := List.findIdx?_eq_some_iff_getElem.1 hi
  have e2 : Xp.pay cs (.col s) = [.int .i64 (i : Int)] := by simp only [Xp.pay, hi, Option.getD_some]
  dsimp only [thE]
  rw [e2]
  clear e2 hi
  dsimp only [xA, Xp.op, Xp.v, Xp.nm, Xp.as, Xp.tid]
  refine FnC.at hE mixed Tryd.func36 [(11, .b false), (23, .b false), (42, .b false), (48, .w ↑cs.length)] ?_
  refine Run.inv (ι := Nat) (fun j => j ≤ i)
    (fun j => ⟨65, [(2, .ptr 2 0), (47, .pv (.lst 3 (cs.map kolE))), (48, .pv (.int .i64 cs.length)), (49, .pv (.int .i64 j))], [(2, .var [.pv (.int .i64 2), .pv (.int .i64 0), .pv (.int .i64 0), .pv (.int .u64 0), .pv (.str noS), .pv (.str s), .pv (.lst 7 [])])]⟩) (fun j => i - j) 0 (by omega) SLe.to ?_
  rintro j hj ih
  have hlt : j < cs.length := by omega
  obtain ⟨d, hd⟩ : ∃ d, cs[j]? = some d := ⟨_, List.getElem?_eq_getElem hlt⟩
  have hd2 : cs[j] = d := (List.getElem?_eq_some_iff.1 hd).2
  have hat := kol_at hd
  by_cases hq : j = i
  ·
    subst hq
    have hq' : (d.nm.toList == s.toList) = true := by rw [← hd2]; exact hi1
    obtain ⟨dk, dkd, dnl⟩ := d
    dsimp only [kolE] at hat
    dsimp only at hq'
    refine Run.end hE mixed [(50, .b true), (52, .el (PV.agg [PV.str dk, PV.int IntKind.i64 dkd, PV.bool dnl])), (58, .b true)] ?_
    exact End.go hE
  ·
    have hq' : (d.nm.toList == s.toList) = false := by
      have := hi2 j (by omega)
      rw [hd2] at this
      simpa using this
    obtain ⟨dk, dkd, dnl⟩ := d
    dsimp only [kolE] at hat
    dsimp only at hq'
    refine Run.end hE mixed [(50, .b true), (52, .el (PV.agg [PV.str dk, PV.int IntKind.i64 dkd, PV.bool dnl])), (58, .b false)] ?_
    exact ih (j + 1) _ SLe.to (by omega) (by omega)
theorem toOk {cs : List Kol} (hl : cs.length ≤ 5) {k : Int} {x : Xp} (h : Ty cs k x) : ToOk g cs x := by
  induction h with
  | lit hv hn hk => exact toLit cs _
  | @col c hf hn =>
    obtain ⟨i, h1, _⟩ := idxC_of hf
    exact toCol hl h1
  | un h ha ih => exact toUn ih
  | bi h ha hb ia ib => exact toBi ia ib
theorem fnEvalG (hV : VStr g) {cs : List Kol} (hc : ColsOk cs) {row : List Vl} (hr : RowOk cs row) {x : Xp} (hw : x.wf) (hd : x.dp ≤ 7) (hs : x.sz ≤ 40) (c3 : ToOk g cs x) (c4 : ThOk g cs row x) (hv : (valP cs row x).2 = 0 ∨ (valP cs row x).1 = v0) : FnC (En Tryd.prog g) 18 [xA x, .pv (.lst 3 (cs.map kolE)), .pv (.lst 4 (row.map vlE))] (.tup [vlA (valP cs row x).1, .pv (.int .i64 (valP cs row x).2)]) [] := by
  have hE := EnOk g
  have c1 := fnXCheck hV hw hd hs
  have c2 := fnKRow hV hc hr
  have hm := meth_x cs x
  unfold ToOk at c3
  unfold ThOk at c4
  clear hw
  generalize valP cs row x = q at *
  obtain ⟨⟨vk, vn, vb, vs⟩, ve⟩ := q
  dsimp only [vlA] at c4 ⊢
  by_cases h0 : ve = 0
  ·
    subst h0
    exact FnC.go hE mixed Tryd.func18 [(13, .fn _ _ _ c1), (15, .b false), (20, .fn _ _ _ c2), (22, .b false), (28, .fn _ _ _ c3), (30, .inv _ _ _ _ _ hm c4), (34, .b false)]
  ·
    have hv0 : (⟨vk, vn, vb, vs⟩ : Vl) = v0 := hv.resolve_left h0
    cases hv0
    exact FnC.go hE mixed Tryd.func18 [(13, .fn _ _ _ c1), (15, .b false), (20, .fn _ _ _ c2), (22, .b false), (28, .fn _ _ _ c3), (30, .inv _ _ _ _ _ hm c4), (34, .b true)]
theorem fnEval (hV : VStr g) {cs : List Kol} (hc : ColsOk cs) {row : List Vl} (hr : RowOk cs row) {k : Int} {x : Xp} (h : Ty cs k x) (hd : x.dp ≤ 7) (hs : x.sz ≤ 40) : FnC (En Tryd.prog g) 18 [xA x, .pv (.lst 3 (cs.map kolE)), .pv (.lst 4 (row.map vlE))] (.tup [vlA (valP cs row x).1, .pv (.int .i64 (valP cs row x).2)]) [] :=
  fnEvalG hV hc hr h.wf hd hs (toOk hc.len h) (thOk hV hc.len hr h) ((val_ok hr h).imp (fun h => h.1) (fun h => h.1))
theorem fnNumX {n : Int} : FnC (En Tryd.prog g) 24 [.pv (.int .i64 n)] (xA (.lit (vN n))) [] := by
  have hE := EnOk g
  exact FnC.go hE mixed Tryd.func24 []
end Go.Proofs.YtdigejpgjnhclaaDoor.Vm
end
end
section
section
section
namespace Go.Proofs.YtdigejpgjnhclaaDoor.Vm
open Go Go.RowKit Go.Lib
set_option linter.unusedVariables false
set_option linter.unusedSimpArgs false
def Xp.isLit : Xp → Bool
  | .lit _ => true
  | _ => false
/-- The value of an expression, if it may be written, or else that. -/
def litOr (x e : Xp) : Xp := if (valP [] [] x).2 = 0 ∧ 0 ≤ (valP [] [] x).1.n then .lit (valP [] [] x).1 else e
def foldP : Xp → Xp
  | .lit v => .lit v
  | .col s => .col s
  | .un op a => if (foldP a).isLit = true then litOr (.un op a) (.un op (foldP a)) else .un op (foldP a)
  | .bi op a b => if (foldP a).isLit = true ∧ (foldP b).isLit = true then litOr (.bi op a b) (.bi op (foldP a) (foldP b)) else .bi op (foldP a) (foldP b)
theorem isLit_ex {x : Xp} (h : x.isLit = true) : ∃ v, x = .lit v := by
  cases x with
  | lit v => exact ⟨v, rfl⟩
  | _ => cases h
theorem litOr_cases (x e : Xp) : (litOr x e = e) ∨ ((valP [] [] x).2 = 0 ∧ 0 ≤ (valP [] [] x).1.n ∧ litOr x e = .lit (valP [] [] x).1) := by
  unfold litOr
  split
  · rename_i h; exact .inr ⟨h.1, h.2, rfl⟩
  · exact .inl rfl
/-- What is a literal has that value in each row. -/
theorem fold_lit {x : Xp} : ∀ {v : Vl}, foldP x = .lit v → ∀ (cs : List Kol) (row : List Vl), valP cs row x = (v, 0) := by
  induction x with
  | lit w => intro v h cs row; obtain rfl := Xp.lit.inj h; rfl
  | col s => intro v h; cases h
  | un op a ih =>
    intro v h cs row
    simp only [foldP] at h
    split at h
    · rename_i hl
      obtain ⟨w, hw⟩ := isLit_ex hl
      have e1 := ih hw
      rcases litOr_cases (.un op a) (.un op (foldP a)) with h2 | ⟨h2, h3, h4⟩
      · rw [h2] at h; cases h
      · rw [h4] at h
        obtain rfl := Xp.lit.inj h
        have e2 : ∀ cs row, valP cs row (.un op a) = one1 op w := fun cs row => by simp only [valP, e1, if_true]
        rw [e2] at h2 ⊢
        rw [e2]
        exact Prod.ext rfl h2
    · cases h
  | bi op a b ia ib =>
    intro v h cs row
    simp only [foldP] at h
    split at h
    · rename_i hl
      obtain ⟨w, hw⟩ := isLit_ex hl.1
      obtain ⟨u, hu⟩ := isLit_ex hl.2
      have e1 := ia hw
      have e2 := ib hu
      rcases litOr_cases (.bi op a b) (.bi op (foldP a) (foldP b)) with h2 | ⟨h2, h3, h4⟩
      · rw [h2] at h; cases h
      · rw [h4] at h
        obtain rfl := Xp.lit.inj h
        have e3 : ∀ cs row, valP cs row (.bi op a b) = valP [] [] (.bi op a b) := fun cs row => by simp only [valP, e1, e2]
        rw [e3]
        exact Prod.ext rfl h2
    · cases h
theorem fold_val (cs : List Kol) (row : List Vl) (x : Xp) : valP cs row (foldP x) = valP cs row x := by
  induction x with
  | lit w => rfl
  | col s => rfl
  | un op a ih =>
    have key : valP cs row (.un op (foldP a)) = valP cs row (.un op a) := by simp only [valP, ih]
    by_cases hl : (foldP (.un op a)).isLit = true
    · obtain ⟨v, hv⟩ := isLit_ex hl
      rw [hv, fold_lit hv]; rfl
    · have : foldP (.un op a) = .un op (foldP a) := by
        simp only [foldP] at hl ⊢
        split
        · rename_i h
          rw [if_pos h] at hl
          rcases litOr_cases (.un op a) (.un op (foldP a)) with h2 | ⟨_, _, h4⟩
          · exact h2
          · rw [h4] at hl; exact absurd rfl hl
        · rfl
      rw [this, key]
  | bi op a b ia ib =>
    have key : valP cs row (.bi op (foldP a) (foldP b)) = valP cs row (.bi op a b) := by simp only [valP, ia, ib]
    by_cases hl : (foldP (.bi op a b)).isLit = true
    · obtain ⟨v, hv⟩ := isLit_ex hl
      rw [hv, fold_lit hv]; rfl
    · have : foldP (.bi op a b) = .bi op (foldP a) (foldP b) := by
        simp only [foldP] at hl ⊢
        split
        · rename_i h
          rw [if_pos h] at hl
          rcases litOr_cases (.bi op a b) (.bi op (foldP a) (foldP b)) with h2 | ⟨_, _, h4⟩
          · exact h2
          · rw [h4] at hl; exact absurd rfl hl
        · rfl
      rw [this, key]
theorem fold_fold (x : Xp) : foldP (foldP x) = foldP x := by
  induction x with
  | lit w => rfl
  | col s => rfl
  | un op a ih =>
    have hf : foldP (.un op (foldP a)) = foldP (.un op a) ∨ True := .inr trivial
    have key : litOr (.un op (foldP a)) (.un op (foldP a)) = litOr (.un op a) (.un op (foldP a)) := by
      have : valP [] [] (.un op (foldP a)) = valP [] [] (.un op a) := by simp only [valP, fold_val]
      unfold litOr
      rw [this]
    have h1 : foldP (.un op (foldP a)) = foldP (.un op a) := by
      simp only [foldP, ih, key]
    by_cases hl : (foldP (.un op a)).isLit = true
    · obtain ⟨v, hv⟩ := isLit_ex hl
      rw [hv]; rfl
    · have : foldP (.un op a) = .un op (foldP a) := by
        simp only [foldP] at hl ⊢
        split
        · rename_i h
          rw [if_pos h] at hl
          rcases litOr_cases (.un op a) (.un op (foldP a)) with h2 | ⟨_, _, h4⟩
          · exact h2
          · rw [h4] at hl; exact absurd rfl hl
        · rfl
      rw [this, h1, this]
  | bi op a b ia ib =>
    have key : litOr (.bi op (foldP a) (foldP b)) (.bi op (foldP a) (foldP b)) = litOr (.bi op a b) (.bi op (foldP a) (foldP b)) := by
      have : valP [] [] (.bi op (foldP a) (foldP b)) = valP [] [] (.bi op a b) := by simp only [valP, fold_val]
      unfold litOr
      rw [this]
    have h1 : foldP (.bi op (foldP a) (foldP b)) = foldP (.bi op a b) := by
      simp only [foldP, ia, ib, key]
    by_cases hl : (foldP (.bi op a b)).isLit = true
    · obtain ⟨v, hv⟩ := isLit_ex hl
      rw [hv]; rfl
    · have : foldP (.bi op a b) = .bi op (foldP a) (foldP b) := by
        simp only [foldP] at hl ⊢
        split
        · rename_i h
          rw [if_pos h] at hl
          rcases litOr_cases (.bi op a b) (.bi op (foldP a) (foldP b)) with h2 | ⟨_, _, h4⟩
          · exact h2
          · rw [h4] at hl; exact absurd rfl hl
        · rfl
      rw [this, h1, this]
theorem fold_dp (x : Xp) : (foldP x).dp ≤ x.dp ∧ (foldP x).sz ≤ x.sz := by
  induction x with
  | lit w => exact ⟨Nat.le_refl _, Nat.le_refl _⟩
  | col s => exact ⟨Nat.le_refl _, Nat.le_refl _⟩
  | un op a ih =>
    have h : ((Xp.un op (foldP a)).dp ≤ (Xp.un op a).dp ∧ (Xp.un op (foldP a)).sz ≤ (Xp.un op a).sz) := by simp only [Xp.dp, Xp.sz]; omega
    simp only [foldP]
    split
    · rcases litOr_cases (.un op a) (.un op (foldP a)) with h2 | ⟨_, _, h4⟩
      · rw [h2]; exact h
      · rw [h4]; simp only [Xp.dp, Xp.sz]; omega
    · exact h
  | bi op a b ia ib =>
    have h : ((Xp.bi op (foldP a) (foldP b)).dp ≤ (Xp.bi op a b).dp ∧ (Xp.bi op (foldP a) (foldP b)).sz ≤ (Xp.bi op a b).sz) := by simp only [Xp.dp, Xp.sz]; omega
    simp only [foldP]
    split
    · rcases litOr_cases (.bi op a b) (.bi op (foldP a) (foldP b)) with h2 | ⟨_, _, h4⟩
      · rw [h2]; exact h
      · rw [h4]; simp only [Xp.dp, Xp.sz]; omega
    · exact h
theorem fold_ty {cs : List Kol} {row : List Vl} (hr : RowOk cs row) {k : Int} {x : Xp} (h : Ty cs k x) : Ty cs k (foldP x) := by
  induction h with
  | lit hv hn hk => exact .lit hv hn hk
  | col hf hn => exact .col hf hn
  | @un op k ka a h ha ih =>
    have ht : Ty cs k (.un op a) := .un h ha
    by_cases hl : (foldP (.un op a)).isLit = true
    · obtain ⟨v, hv⟩ := isLit_ex hl
      have e1 := fold_lit hv cs row
      have hn : 0 ≤ v.n := by
        simp only [foldP] at hv
        split at hv
        · rcases litOr_cases (.un op a) (.un op (foldP a)) with h2 | ⟨_, h3, h4⟩
          · rw [h2] at hv; cases hv
          · rw [h4] at hv; obtain rfl := Xp.lit.inj hv; exact h3
        · cases hv
      rw [hv]
      rcases val_ok hr ht with ⟨_, g1, g2⟩ | ⟨_, h2⟩
      · rw [e1] at g1 g2
        exact .lit g1 hn g2
      · rw [e1] at h2; dsimp only at h2; omega
    · have : foldP (.un op a) = .un op (foldP a) := by
        simp only [foldP] at hl ⊢
        split
        · rename_i h
          rw [if_pos h] at hl
          rcases litOr_cases (.un op a) (.un op (foldP a)) with h2 | ⟨_, _, h4⟩
          · exact h2
          · rw [h4] at hl; exact absurd rfl hl
        · rfl
      rw [this]
      exact .un h ih
  | @bi op k ka a b h ha hb ia ib =>
    have ht : Ty cs k (.bi op a b) := .bi h ha hb
    by_cases hl : (foldP (.bi op a b)).isLit = true
    · obtain ⟨v, hv⟩ := isLit_ex hl
      have e1 := fold_lit hv cs row
      have hn : 0 ≤ v.n := by
        simp only [foldP] at hv
        split at hv
        · rcases litOr_cases (.bi op a b) (.bi op (foldP a) (foldP b)) with h2 | ⟨_, h3, h4⟩
          · rw [h2] at hv; cases hv
          · rw [h4] at hv; obtain rfl := Xp.lit.inj hv; exact h3
        · cases hv
      rw [hv]
      rcases val_ok hr ht with ⟨_, g1, g2⟩ | ⟨_, h2⟩
      · rw [e1] at g1 g2
        exact .lit g1 hn g2
      · rw [e1] at h2; dsimp only at h2; omega
    · have : foldP (.bi op a b) = .bi op (foldP a) (foldP b) := by
        simp only [foldP] at hl ⊢
        split
        · rename_i h
          rw [if_pos h] at hl
          rcases litOr_cases (.bi op a b) (.bi op (foldP a) (foldP b)) with h2 | ⟨_, _, h4⟩
          · exact h2
          · rw [h4] at hl; exact absurd rfl hl
        · rfl
      rw [this]
      exact .bi h ia ib
/-- What is a literal when reckoned ahead names no column. -/
theorem fold_ground {x : Xp} {cs : List Kol} {k : Int} (h : Ty cs k x) (hl : (foldP x).isLit = true) : Ty [] k x := by
  induction h with
  | lit hv hn hk => exact .lit hv hn hk
  | col hf hn => cases hl
  | @un op k ka a h ha ih =>
    simp only [foldP] at hl
    split at hl
    · rename_i h2; exact .un h (ih h2)
    · cases hl
  | @bi op k ka a b h ha hb ia ib =>
    simp only [foldP] at hl
    split at hl
    · rename_i h2; exact .bi h (ia h2.1) (ib h2.2)
    · cases hl
end Go.Proofs.YtdigejpgjnhclaaDoor.Vm
end
section
namespace Go.Proofs.YtdigejpgjnhclaaDoor.Vm
open Go Go.RowKit Go.Lib
set_option linter.unusedVariables false
set_option linter.unusedSimpArgs false
attribute [local irreducible] Ops Dr Run
/-- What an expression is made ready as, ahead of any row. -/
def Xp.tidN : Xp → TypeId
  | .lit _ => 98
  | .col _ => 102
  | .un _ _ => 94
  | .bi _ _ _ => 96
def Xp.payN : Xp → List PV
  | .lit v => [.int .i64 v.kd, .int .i64 v.n, .int .u64 v.b, .str v.s]
  | .col _ => []
  | .un op a => [.int .i64 op, .ifc a.tidN (.agg a.payN)]
  | .bi op a b => [.int .i64 op, .ifc a.tidN (.agg a.payN), .ifc b.tidN (.agg b.payN)]
theorem ground_n {k : Int} {x : Xp} (h : Ty [] k x) : x.tidN = x.tid [] ∧ x.payN = x.pay [] := by
  induction h with
  | lit => exact ⟨rfl, rfl⟩
  | col hf hn => unfold findC at hf; simp at hf
  | un h ha ih => exact ⟨rfl, by simp only [Xp.payN, Xp.pay, ih.1, ih.2]⟩
  | bi h ha hb ia ib => exact ⟨rfl, by simp only [Xp.payN, Xp.pay, ia.1, ia.2, ib.1, ib.2]⟩
variable {g : Nat → Option (List PV)}
theorem toN (x : Xp) (hw : x.wf) : FnC (En Tryd.prog g) 36 [xA x, .pv .nil] (.pv (.ifc x.tidN (.agg x.payN))) [] := by
  have hE := EnOk g
  induction x with
  | lit v =>
    obtain ⟨vk, vn, vb, vs⟩ := v
    dsimp only [xA, Xp.op, Xp.v, Xp.nm, Xp.as, Xp.tidN, Xp.payN]
    exact FnC.go hE mixed Tryd.func36 [(11, .b false), (23, .b false), (42, .b true)]
  | col s =>
    dsimp only [xA, Xp.op, Xp.v, Xp.nm, Xp.as, Xp.tidN, Xp.payN]
    refine FnC.at hE mixed Tryd.func36 [(11, .b false), (23, .b false), (42, .b false)] ?_
    refine Run.turn ?_
    refine Run.end hE mixed [(50, .b false)] ?_
    exact End.go hE
  | un op a ih =>
    have ih := ih hw.2
    dsimp only [xA, Xp.op, Xp.v, Xp.nm, Xp.as, Xp.tidN, Xp.payN] at ih ⊢
    exact FnC.go hE mixed Tryd.func36 [(11, .b true), (19, .fn _ _ _ ih)]
  | bi op a b ia ib =>
    have ia := ia hw.2.1
    have ib := ib hw.2.2
    dsimp only [xA, Xp.op, Xp.v, Xp.nm, Xp.as, Xp.tidN, Xp.payN] at ia ib ⊢
    exact FnC.go hE mixed Tryd.func36 [(23, .b true), (31, .fn _ _ _ ia), (37, .fn _ _ _ ib)]
theorem lit_op {x : Xp} (h : x.wf) (hl : ¬ x.isLit = true) : x.op ≠ 1 := by
  cases x with
  | lit v => exact absurd rfl hl
  | col s => simp [Xp.op]
  | un op a => have := h.1; unfold UnOp at this; simp only [Xp.op]; omega
  | bi op a b => have := h.1; unfold BiOp at this; simp only [Xp.op]; omega
theorem meth1 : Meth Tryd.prog 94 "chirograph/eval.of" 82 := meth_x [] (.un 0 (.lit v0))
theorem meth2 : Meth Tryd.prog 96 "chirograph/eval.of" 87 := meth_x [] (.bi 0 (.lit v0) (.lit v0))
theorem kept1 {op : Int} {a : Xp} (h : ¬ (foldP a).isLit = true) : foldP (.un op a) = .un op (foldP a) := by simp only [foldP]; rw [if_neg h]
theorem fnFold1 (hV : VStr g) {cs : List Kol} {row : List Vl} (hr : RowOk cs row) {k op : Int} {a : Xp} (h : Ty cs k (.un op a)) : FnC (En Tryd.prog g) 48 [.pv (.ifc 94 (.agg [.int .i64 op, .ifc a.tidN (.agg a.payN)])), xA (.un op (foldP a))] (xA (foldP (.un op a))) [] := by
  have hE := EnOk g
  have hwf : (foldP a).wf := by
    cases h with
    | un h ha => exact (fold_ty hr ha).wf
  by_cases hl : (foldP a).isLit = true
  ·
    have hg : Ty [] k (.un op a) := by
      cases h with
      | un h ha => exact .un h (fold_ground ha hl)
    obtain ⟨e1, e2⟩ := ground_n hg
    have hm := meth1
    have ht := thNil hV hg
    unfold ThV at ht
    rw [← e2] at ht
    dsimp only [Xp.mth, Xp.payN, List.map_nil] at ht
    have hf : foldP (.un op a) = litOr (.un op a) (.un op (foldP a)) := by simp only [foldP]; rw [if_pos hl]
    rw [hf]
    unfold litOr
    obtain ⟨w, hw⟩ := isLit_ex hl
    rw [hw]
    generalize valP [] [] (.un op a) = r at *
    clear e1 e2 hf hg hwf hl h
    obtain ⟨⟨vk, vn, vb, vs⟩, e⟩ := r
    dsimp only [vlA] at ht ⊢
    by_cases h0 : e = 0
    ·
      by_cases h1 : 0 ≤ vn
      ·
        rw [if_pos ⟨h0, h1⟩]
        dsimp only [xA, Xp.op, Xp.v, Xp.nm, Xp.as]
        refine FnC.at hE mixed Tryd.func48 [] ?_
        refine Run.turn ?_
        refine Run.end hE mixed [(18, .b false)] ?_
        refine Round.turn ?_
        refine Run.end hE mixed [(23, .inv _ _ _ _ _ hm ht), (27, .b false), (31, .b false)] ?_
        exact End.go hE
      ·
        rw [if_neg (fun h => h1 h.2)]
        dsimp only [xA, Xp.op, Xp.v, Xp.nm, Xp.as]
        refine FnC.at hE mixed Tryd.func48 [] ?_
        refine Run.turn ?_
        refine Run.end hE mixed [(18, .b false)] ?_
        refine Round.turn ?_
        refine Run.end hE mixed [(23, .inv _ _ _ _ _ hm ht), (27, .b false), (31, .b true)] ?_
        exact End.go hE
    ·
      rw [if_neg (fun h => h0 h.1)]
      dsimp only [xA, Xp.op, Xp.v, Xp.nm, Xp.as]
      refine FnC.at hE mixed Tryd.func48 [] ?_
      refine Run.turn ?_
      refine Run.end hE mixed [(18, .b false)] ?_
      refine Round.turn ?_
      refine Run.end hE mixed [(23, .inv _ _ _ _ _ hm ht), (27, .b true)] ?_
      exact End.go hE
  ·
    rw [kept1 hl]
    have hop := lit_op hwf hl
    clear h hwf hl
    generalize foldP a = b at *
    dsimp only [xA, Xp.op, Xp.v, Xp.nm, Xp.as]
    refine FnC.at hE mixed Tryd.func48 [] ?_
    refine Run.turn ?_
    refine Run.end hE mixed [(18, .b true)] ?_
    exact End.go hE
theorem kept2 {op : Int} {a b : Xp} (h : ¬ ((foldP a).isLit = true ∧ (foldP b).isLit = true)) : foldP (.bi op a b) = .bi op (foldP a) (foldP b) := by simp only [foldP]; rw [if_neg h]
theorem fnFold2 (hV : VStr g) {cs : List Kol} {row : List Vl} (hr : RowOk cs row) {k op : Int} {a b : Xp} (h : Ty cs k (.bi op a b)) : FnC (En Tryd.prog g) 48 [.pv (.ifc 96 (.agg [.int .i64 op, .ifc a.tidN (.agg a.payN), .ifc b.tidN (.agg b.payN)])), xA (.bi op (foldP a) (foldP b))] (xA (foldP (.bi op a b))) [] := by
  have hE := EnOk g
  have hwf : (foldP a).wf ∧ (foldP b).wf := by
    cases h with
    | bi h ha hb => exact ⟨(fold_ty hr ha).wf, (fold_ty hr hb).wf⟩
  by_cases hl : (foldP a).isLit = true
  ·
    by_cases hl2 : (foldP b).isLit = true
    ·
      have hg : Ty [] k (.bi op a b) := by
        cases h with
        | bi h ha hb => exact .bi h (fold_ground ha hl) (fold_ground hb hl2)
      obtain ⟨e1, e2⟩ := ground_n hg
      have hm := meth2
      have ht := thNil hV hg
      unfold ThV at ht
      rw [← e2] at ht
      dsimp only [Xp.mth, Xp.payN, List.map_nil] at ht
      have hf : foldP (.bi op a b) = litOr (.bi op a b) (.bi op (foldP a) (foldP b)) := by simp only [foldP]; rw [if_pos ⟨hl, hl2⟩]
      rw [hf]
      unfold litOr
      obtain ⟨w, hw⟩ := isLit_ex hl
      obtain ⟨w2, hw2⟩ := isLit_ex hl2
      rw [hw, hw2]
      generalize valP [] [] (.bi op a b) = r at *
      clear e1 e2 hf hg hwf hl hl2 h
      obtain ⟨⟨vk, vn, vb, vs⟩, e⟩ := r
      dsimp only [vlA] at ht ⊢
      by_cases h0 : e = 0
      ·
        by_cases h1 : 0 ≤ vn
        ·
          rw [if_pos ⟨h0, h1⟩]
          dsimp only [xA, Xp.op, Xp.v, Xp.nm, Xp.as]
          refine FnC.at hE mixed Tryd.func48 [] ?_
          refine Run.turn ?_
          refine Run.end hE mixed [(18, .b false)] ?_
          refine Round.but [6] rfl rfl rfl ?_
          refine Run.end hE mixed [(18, .b false)] ?_
          refine Round.but [6] rfl rfl rfl ?_
          refine Run.end hE mixed [(23, .inv _ _ _ _ _ hm ht), (27, .b false), (31, .b false)] ?_
          exact End.go hE
        ·
          rw [if_neg (fun h => h1 h.2)]
          dsimp only [xA, Xp.op, Xp.v, Xp.nm, Xp.as]
          refine FnC.at hE mixed Tryd.func48 [] ?_
          refine Run.turn ?_
          refine Run.end hE mixed [(18, .b false)] ?_
          refine Round.but [6] rfl rfl rfl ?_
          refine Run.end hE mixed [(18, .b false)] ?_
          refine Round.but [6] rfl rfl rfl ?_
          refine Run.end hE mixed [(23, .inv _ _ _ _ _ hm ht), (27, .b false), (31, .b true)] ?_
          exact End.go hE
      ·
        rw [if_neg (fun h => h0 h.1)]
        dsimp only [xA, Xp.op, Xp.v, Xp.nm, Xp.as]
        refine FnC.at hE mixed Tryd.func48 [] ?_
        refine Run.turn ?_
        refine Run.end hE mixed [(18, .b false)] ?_
        refine Round.but [6] rfl rfl rfl ?_
        refine Run.end hE mixed [(18, .b false)] ?_
        refine Round.but [6] rfl rfl rfl ?_
        refine Run.end hE mixed [(23, .inv _ _ _ _ _ hm ht), (27, .b true)] ?_
        exact End.go hE
    ·
      rw [kept2 (fun h => hl2 h.2)]
      have hop := lit_op hwf.2 hl2
      obtain ⟨w, hw⟩ := isLit_ex hl
      rw [hw]
      clear h hwf hl hl2 hw
      generalize foldP b = c at *
      dsimp only [xA, Xp.op, Xp.v, Xp.nm, Xp.as]
      refine FnC.at hE mixed Tryd.func48 [] ?_
      refine Run.turn ?_
      refine Run.end hE mixed [(18, .b false)] ?_
      refine Round.but [6] rfl rfl rfl ?_
      refine Run.end hE mixed [(18, .b true)] ?_
      exact End.go hE
  ·
    rw [kept2 (fun h => hl h.1)]
    have hop := lit_op hwf.1 hl
    clear h hwf hl
    generalize foldP a = c at *
    generalize foldP b = d at *
    dsimp only [xA, Xp.op, Xp.v, Xp.nm, Xp.as]
    refine FnC.at hE mixed Tryd.func48 [] ?_
    refine Run.turn ?_
    refine Run.end hE mixed [(18, .b true)] ?_
    exact End.go hE
set_option maxRecDepth 20000 in
theorem fnExprOfN (hV : VStr g) {cs : List Kol} {row : List Vl} (hr : RowOk cs row) {k : Int} {x : Xp} (h : Ty cs k x) : FnC (En Tryd.prog g) 42 [.pv (.ifc x.tidN (.agg x.payN)), xA x] (xA (foldP x)) [] := by
  have hE := EnOk g
  induction h with
  | @lit k v hv hn hk =>
    obtain ⟨vk, vn, vb, vs⟩ := v
    dsimp only [xA, Xp.op, Xp.v, Xp.nm, Xp.as, Xp.tidN, Xp.payN, foldP]
    exact FnC.go hE mixed Tryd.func42 []
  | @col c hf hn =>
    dsimp only [xA, Xp.op, Xp.v, Xp.nm, Xp.as, Xp.tidN, Xp.payN, foldP]
    exact FnC.go hE mixed Tryd.func42 []
  | @un op k ka a h ha ih =>
    have c1 := fnFold1 (g := g) hV hr (.un h ha)
    generalize foldP (.un op a) = z at *
    generalize foldP a = b at *
    clear ha h hr
    dsimp only [xA, Xp.op, Xp.v, Xp.nm, Xp.as, Xp.tidN, Xp.payN] at ih c1 ⊢
    exact FnC.go hE mixed Tryd.func42 [(28, .fn _ _ _ ih), (31, .fn _ _ _ c1)]
  | @bi op k ka a b h ha hb ia ib =>
    have c1 := fnFold2 (g := g) hV hr (.bi h ha hb)
    generalize foldP (.bi op a b) = z at *
    generalize foldP a = c at *
    generalize foldP b = d at *
    clear ha hb h hr
    dsimp only [xA, Xp.op, Xp.v, Xp.nm, Xp.as, Xp.tidN, Xp.payN] at ia ib c1 ⊢
    exact FnC.go hE mixed Tryd.func42 [(45, .fn _ _ _ ia), (52, .fn _ _ _ ib), (55, .fn _ _ _ c1)]
theorem fnFold (hV : VStr g) {cs : List Kol} {row : List Vl} (hr : RowOk cs row) {k : Int} {x : Xp} (h : Ty cs k x) (hd : x.dp ≤ 7) (hs : x.sz ≤ 40) : FnC (En Tryd.prog g) 30 [xA x] (.tup [xA (foldP x), .pv (.int .i64 0)]) [] := by
  have hE := EnOk g
  have c1 := fnXCheck hV h.wf hd hs
  have c2 := toN (g := g) x h.wf
  have c3 := fnExprOfN (g := g) hV hr h
  clear h hr
  generalize foldP x = y at *
  generalize x.tidN = T at *
  generalize x.payN = P at *
  exact FnC.go hE mixed Tryd.func30 [(6, .fn _ _ _ c1), (8, .b false), (12, .fn _ _ _ c2), (14, .fn _ _ _ c3)]
attribute [local irreducible] sameV
/-- An expression is the same as itself. -/
theorem fnSameX (x : Xp) : FnC (En Tryd.prog g) 31 [xA x, xA x] (.pv (.bool true)) [] := by
  have hE := EnOk g
  have hno : (!(noS.toList == noS.toList)) = false := by simp
  induction x with
  | lit v =>
    obtain ⟨vk, vn, vb, vs⟩ := v
    have s1 := sameV_iff.2 (rfl : (⟨vk, vn, vb, vs⟩ : Vl) = ⟨vk, vn, vb, vs⟩)
    have s2 : (!sameV ⟨vk, vn, vb, vs⟩ ⟨vk, vn, vb, vs⟩) = false := by rw [s1]; rfl
    dsimp only [xA, Xp.op, Xp.v, Xp.nm, Xp.as]
    refine FnC.at hE mixed Tryd.func31 [(10, .b false), (16, hEq _ { kd := vk, n := vn, b := vb, s := vs } { kd := vk, n := vn, b := vb, s := vs } false), (23, .b false), (32, .b false)] ?_
    refine Run.turn ?_
    refine Run.end hE mixed [(38, .b false)] ?_
    exact End.go hE
  | col s =>
    have s1 := sameV_iff.2 (rfl : v0 = v0)
    have h2 : (!(s.toList == s.toList)) = false := by simp
    dsimp only [xA, Xp.op, Xp.v, Xp.nm, Xp.as, v0] at s1 ⊢
    refine FnC.at hE mixed Tryd.func31 [(10, .b false), (16, hEq _ { kd := 0, n := 0, b := 0, s := noS } { kd := 0, n := 0, b := 0, s := noS } false), (23, .b false), (32, .b false)] ?_
    refine Run.turn ?_
    refine Run.end hE mixed [(38, .b false)] ?_
    exact End.go hE
  | un op a ih =>
    have s1 := sameV_iff.2 (rfl : v0 = v0)
    dsimp only [xA, Xp.op, Xp.v, Xp.nm, Xp.as, v0] at s1 ih ⊢
    refine FnC.at hE mixed Tryd.func31 [(10, .b false), (16, hEq _ { kd := 0, n := 0, b := 0, s := noS } { kd := 0, n := 0, b := 0, s := noS } false), (23, .b false), (32, .b false)] ?_
    refine Run.turn ?_
    refine Run.end hE mixed [(50, .fn _ _ _ ih)] ?_
    refine Round.turn ?_
    refine Run.end hE mixed [] ?_
    exact End.go hE
  | bi op a b ia ib =>
    have s1 := sameV_iff.2 (rfl : v0 = v0)
    dsimp only [xA, Xp.op, Xp.v, Xp.nm, Xp.as, v0] at s1 ia ib ⊢
    refine FnC.at hE mixed Tryd.func31 [(10, .b false), (16, hEq _ { kd := 0, n := 0, b := 0, s := noS } { kd := 0, n := 0, b := 0, s := noS } false), (23, .b false), (32, .b false)] ?_
    refine Run.turn ?_
    refine Run.end hE mixed [(50, .fn _ _ _ ia)] ?_
    refine Round.turn ?_
    refine Run.end hE mixed [(50, .fn _ _ _ ib)] ?_
    refine Round.turn ?_
    refine Run.end hE mixed [] ?_
    exact End.go hE
end Go.Proofs.YtdigejpgjnhclaaDoor.Vm
end
end
section
section
namespace Go.Proofs.YtdigejpgjnhclaaDoor.Vm
open Go Go.RowKit Go.Lib
set_option linter.unusedVariables false
set_option linter.unusedSimpArgs false
attribute [local irreducible] Ops Dr Run
variable {g : Nat → Option (List PV)}
/-- A beginning of a row that fits. -/
def RowUp (cs : List Kol) (row : List Vl) : Prop := ∀ (i : Nat) c v, cs[i]? = some c → row[i]? = some v → Good v ∧ (v.kd = c.kd ∨ (v.kd = 0 ∧ c.nl = true))
theorem RowUp.more {cs : List Kol} {row : List Vl} (h : RowUp cs row) {c : Kol} {v : Vl} (hc : cs[row.length]? = some c) (hv : Good v ∧ (v.kd = c.kd ∨ (v.kd = 0 ∧ c.nl = true))) : RowUp cs (row ++ [v]) := by
  intro i d w hd hw
  rcases Nat.lt_trichotomy i row.length with hi | hi | hi
  · rw [List.getElem?_append_left hi] at hw
    exact h i d w hd hw
  · subst hi
    rw [hc] at hd
    obtain rfl := Option.some.inj hd
    simp at hw
    subst hw
    exact hv
  · rw [List.getElem?_eq_none (by simp; omega)] at hw
    cases hw
theorem fnHeapRow {rs : List Rw} (hl : rs.length ≤ 40) (hr : ∀ r ∈ rs, RwOk r) {cs : List Kol} (hcs : ColsOk cs) (hk0 : ∀ c, cs[0]? = some c → c.kd = 2) {k : Int} (hk : 0 ≤ k ∧ k ≤ 100000) {key : Int} (hkey : inR key) :
    ∃ (row : List Vl) (k' : Int), (0 ≤ k' ∧ k' ≤ k + 5 ∧ RowOk cs row) ∧ FnL (EnL Tryd.prog g [200]) 27 [.ptr 200 0, .pv (.int .i64 key)] [(200, hpV rs k cs)] (.pv (.lst 4 (row.map vlE))) [(200, hpV rs k' cs)] := by
  have hE := EnLOk g [200]
  have hlen := hcs.len
  have hlm : ((cs.map kolE).length : Int) = cs.length := by simp
  suffices h : ∃ r bo, (∃ (row : List Vl) (k' : Int), (0 ≤ k' ∧ k' ≤ k + 5 ∧ RowOk cs row) ∧ r = .pv (.lst 4 (row.map vlE)) ∧ bo = [(200, hpV rs k' cs)]) ∧ FnL (EnL Tryd.prog g [200]) 27 [.ptr 200 0, .pv (.int .i64 key)] [(200, hpV rs k cs)] r bo by
    obtain ⟨r, bo, ⟨row, k', h1, rfl, rfl⟩, h2⟩ := h
    exact ⟨row, k', h1, h2⟩
  refine FnL.ex Tryd.func27 ?_
  refine Run.at hE mixed [(13, .w ↑cs.length)] ?_
  refine Run.pre (SLe.nilBox (t := 5) (b := 300) (e := 25) (sz := 4) rfl rfl rfl rfl) ?_
  refine Run.inv (ι := List Vl × Nat × Int) (fun q => q.1.length = q.2.1 ∧ q.2.1 ≤ cs.length ∧ RowUp cs q.1 ∧ q.2.2 = k + q.2.1)
    (fun q => ⟨63, [(0, .ptr 200 0), (1, .pv (.int .i64 key)), (5, .gl 300 q.2.1), (12, .pv (.lst 3 (cs.map kolE))), (13, .pv (.int .i64 cs.length)), (14, .pv (.int .i64 q.2.1))], [(200, hpV rs q.2.2 cs), (300, .lst 25 4 (q.1.map vlE))]⟩) (fun q => cs.length - q.2.1) ([], 0, k) ⟨rfl, Nat.zero_le _, fun i c v _ h => by simp at h, by simp⟩ SLe.to ?_
  rintro ⟨row, j, m⟩ ⟨hj, hjc, hup, hm⟩ ih
  dsimp only at hj hjc hup hm ih ⊢
  by_cases hlt : j < cs.length
  ·
    obtain ⟨c, hc⟩ : ∃ c, cs[j]? = some c := ⟨_, List.getElem?_eq_getElem hlt⟩
    have hat := kol_at hc
    have hck := (hcs.ok c (List.mem_of_getElem? hc)).2
    have cn := fnNextHp (g := g) hl (cs := cs) (k := m) (by omega)
    have hro := nxt_ok hr (k := m) (by omega)
    generalize nxt rs m = r at *
    have p4 := (fnPick (g := g) (a := r.b) (m := 4) (by omega) (by omega)).lent [200]
    have p40 := (fnPick (g := g) (a := r.a) (m := 40) (by omega) (by omega)).lent [200]
    obtain ⟨v, hv, hvk, cv0⟩ := valOf_exK (g := g) hro (kd := c.kd) (by omega) (by omega)
    have cv := cv0.lent [200]
    clear cv0
    have hml : ∀ v : Vl, ((row ++ [v]).map vlE).length = j + 1 := fun v => by simp [hj]
    have hap : ∀ v : Vl, row.map vlE ++ [vlE v] = (row ++ [v]).map vlE := fun v => by simp
    have hmore := fun (v : Vl) (h : Good v ∧ (v.kd = c.kd ∨ (v.kd = 0 ∧ c.nl = true))) => hup.more (v := v) (by rw [hj]; exact hc) h
    have hj2 : ∀ v : Vl, (row ++ [v]).length = j + 1 := fun v => by simp [hj]
    have hz : j = 0 → c.kd = 2 := fun h => hk0 c (by rw [← h]; exact hc)
    clear hro
    obtain ⟨rk, ra, rb, rt⟩ := r
    obtain ⟨cm, ckd, cnl⟩ := c
    dsimp only [kolE] at hat
    dsimp only at p4 p40 cv hvk hck hmore hz
    have hj3 : ((row.map vlE).length : Int) = j := by simp [hj]
    by_cases h0 : j = 0
    ·
      have h1 := hap (vN key)
      have h2 := hml (vN key)
      have hm3 := hmore (vN key) ⟨.int key hkey, .inl (hz h0).symm⟩
      clear hap hml hmore cv p4 p40
      dsimp only [vlE, vN] at h1 h2
      refine Run.end hE mixed [(15, .b true), (17, .el (PV.agg [PV.str cm, PV.int IntKind.i64 ckd, PV.bool cnl])), (20, .ln _ _ _ _ _ _ cn), (30, .b true), (35, .xl (List.map vlE (row ++ [{ kd := 2, n := key, b := 0, s := noS }])) (j + 1))] ?_
      exact ih (row ++ [vN key], j + 1, m + 1) _ SLe.to ⟨hj2 _, by dsimp only; omega, hm3, by dsimp only; omega⟩ (by dsimp only; omega)
    by_cases hn : cnl = true ∧ rb % 4 = 0
    ·
      obtain ⟨rfl, hn⟩ := hn
      have h1 := hap v0
      have h2 := hml v0
      have hm3 := hmore v0 ⟨.null, .inr ⟨rfl, rfl⟩⟩
      clear hap hml hmore cv p40
      dsimp only [vlE, v0] at h1 h2
      refine Run.end hE mixed [(15, .b true), (17, .el (PV.agg [PV.str cm, PV.int IntKind.i64 ckd, PV.bool true])), (20, .ln _ _ _ _ _ _ cn), (30, .b false), (42, .fn _ _ _ p4), (43, .b true), (48, .xl (List.map vlE (row ++ [{ kd := 0, n := 0, b := 0, s := noS }])) (j + 1))] ?_
      exact ih (row ++ [v0], j + 1, m + 1) _ SLe.to ⟨hj2 _, by dsimp only; omega, hm3, by dsimp only; omega⟩ (by dsimp only; omega)
    by_cases h2k : ckd = 2
    ·
      have hg : inR (ra % 40 - 10) := by unfold inR; omega
      have h1 := hap (vN (ra % 40 - 10))
      have h2 := hml (vN (ra % 40 - 10))
      have hm3 := hmore (vN (ra % 40 - 10)) ⟨.int _ hg, .inl h2k.symm⟩
      clear hap hml hmore cv
      dsimp only [vlE, vN] at h1 h2
      have hra : 0 ≤ ra % 40 ∧ ra % 40 < 40 := by omega
      cases cnl
      ·
        clear hn p4
        refine Run.end hE mixed [(15, .b true), (17, .el (PV.agg [PV.str cm, PV.int IntKind.i64 ckd, PV.bool false])), (20, .ln _ _ _ _ _ _ cn), (30, .b false), (52, .b true), (56, .fn _ _ _ p40), (60, .xl (List.map vlE (row ++ [{ kd := 2, n := ra % 40 - 10, b := 0, s := noS }])) (j + 1))] ?_
        exact ih (row ++ [vN (ra % 40 - 10)], j + 1, m + 1) _ SLe.to ⟨hj2 _, by dsimp only; omega, hm3, by dsimp only; omega⟩ (by dsimp only; omega)
      ·
        have hn : ¬ rb % 4 = 0 := fun h => hn ⟨rfl, h⟩
        refine Run.end hE mixed [(15, .b true), (17, .el (PV.agg [PV.str cm, PV.int IntKind.i64 ckd, PV.bool true])), (20, .ln _ _ _ _ _ _ cn), (30, .b false), (42, .fn _ _ _ p4), (43, .b false), (52, .b true), (56, .fn _ _ _ p40), (60, .xl (List.map vlE (row ++ [{ kd := 2, n := ra % 40 - 10, b := 0, s := noS }])) (j + 1))] ?_
        exact ih (row ++ [vN (ra % 40 - 10)], j + 1, m + 1) _ SLe.to ⟨hj2 _, by dsimp only; omega, hm3, by dsimp only; omega⟩ (by dsimp only; omega)
    have h1 := hap v
    have h2 := hml v
    have hm3 := hmore v ⟨hv, .inl hvk⟩
    clear hap hml hmore p40 hv
    obtain ⟨vk, vn, vb, vs⟩ := v
    dsimp only [vlE] at h1
    dsimp only [vlA] at cv
    cases cnl
    ·
      clear hn p4
      refine Run.end hE mixed [(15, .b true), (17, .el (PV.agg [PV.str cm, PV.int IntKind.i64 ckd, PV.bool false])), (20, .ln _ _ _ _ _ _ cn), (30, .b false), (52, .b false), (25, .fn _ _ _ cv), (27, .xl (List.map vlE (row ++ [{ kd := vk, n := vn, b := vb, s := vs }])) (j + 1))] ?_
      exact ih (row ++ [⟨vk, vn, vb, vs⟩], j + 1, m + 1) _ SLe.to ⟨hj2 _, by dsimp only; omega, hm3, by dsimp only; omega⟩ (by dsimp only; omega)
    ·
      have hn : ¬ rb % 4 = 0 := fun h => hn ⟨rfl, h⟩
      refine Run.end hE mixed [(15, .b true), (17, .el (PV.agg [PV.str cm, PV.int IntKind.i64 ckd, PV.bool true])), (20, .ln _ _ _ _ _ _ cn), (30, .b false), (42, .fn _ _ _ p4), (43, .b false), (52, .b false), (25, .fn _ _ _ cv), (27, .xl (List.map vlE (row ++ [{ kd := vk, n := vn, b := vb, s := vs }])) (j + 1))] ?_
      exact ih (row ++ [⟨vk, vn, vb, vs⟩], j + 1, m + 1) _ SLe.to ⟨hj2 _, by dsimp only; omega, hm3, by dsimp only; omega⟩ (by dsimp only; omega)
  ·
    obtain rfl : j = cs.length := by omega
    refine Run.end hE mixed [(15, .b false)] ?_
    refine End.ex ⟨row, m, ⟨by omega, by omega, hj, hup⟩, rfl, rfl⟩ (End.of hE ?_)
    exact SLe.by rfl (.cons (AVle.lst _ _ _ (lstOf_glV rfl (by simp [hj]))) .nil) (.cons rfl (.refl _) .nil) rfl rfl
end Go.Proofs.YtdigejpgjnhclaaDoor.Vm
end
section
section
namespace Go.Proofs.YtdigejpgjnhclaaDoor.Vm
open Go Go.RowKit Go.Lib
set_option linter.unusedVariables false
set_option linter.unusedSimpArgs false
attribute [local irreducible] Ops Dr Run
theorem cols0_ok : ColsOk [] := ⟨by simp, fun c hc => by simp at hc, by simp⟩
theorem row0_ok : RowOk [] [] := ⟨rfl, fun i c v hc => by simp at hc⟩
/-- One is one. -/
theorem fnEvalTells : FnC (En Tryd.prog gT) 21 [] (.pv (.bool true)) [] := by
  have hE := EnOk gT
  have e1 := fnEval vstr cols0_ok row0_ok (k := 2) (x := .lit (vN 1)) (.lit (.int 1 ⟨by omega, by omega⟩) (by decide) (.inl rfl)) (by decide) (by decide)
  have n1 := fnNumX (g := gT) (n := 1)
  rw [show valP [] [] (.lit (vN 1)) = (vN 1, 0) from rfl] at e1
  have s1 := sameV_iff.2 (rfl : vN 1 = vN 1)
  generalize (Xp.lit (vN 1)) = x at *
  dsimp only [vlA, vN, List.map_nil] at e1 n1 s1
  exact FnC.go hE mixed Tryd.func21 [(4, .fn _ _ _ n1), (5, .fn _ _ _ e1), (9, .b true), (13, hEq _ { kd := 2, n := 1, b := 0, s := noS } { kd := 2, n := 1, b := 0, s := noS } true)]
end Go.Proofs.YtdigejpgjnhclaaDoor.Vm
end
section
section
section
namespace Go.Proofs.YtdigejpgjnhclaaDoor.Vm
open Go Go.RowKit Go.Lib
set_option linter.unusedVariables false
set_option linter.unusedSimpArgs false
attribute [local irreducible] Ops Dr Run
theorem dp_sz {x : Xp} {n : Nat} (h : x.dp ≤ n) : x.sz + 1 ≤ 2 ^ n := Nat.le_trans x.sz_dp (Nat.pow_le_pow_right (by omega) h)
end Go.Proofs.YtdigejpgjnhclaaDoor.Vm
end
section
namespace Go.Proofs.YtdigejpgjnhclaaDoor.Vm
open Go Go.RowKit Go.Lib
set_option linter.unusedVariables false
set_option linter.unusedSimpArgs false
attribute [local irreducible] Ops Dr Run
theorem colsH_k0 (rs : List Rw) : ∀ c, (colsH rs)[0]? = some c → c.kd = 2 := fun c h => by
  unfold colsH colsP at h
  simp at h
  subst h
  rfl
end Go.Proofs.YtdigejpgjnhclaaDoor.Vm
end
end
section
namespace Go.Proofs.YtdigejpgjnhclaaDoor.Vm
open Go Go.RowKit Go.Lib
set_option linter.unusedVariables false
set_option linter.unusedSimpArgs false
attribute [local irreducible] Ops Dr Run
theorem op_pos {x : Xp} (h : x.wf) : 0 < x.op := by
  cases x with
  | lit v => simp [Xp.op]
  | col s => simp [Xp.op]
  | un op a => have := h.1; unfold UnOp at this; simp only [Xp.op]; omega
  | bi op a b => have := h.1; unfold BiOp at this; simp only [Xp.op]; omega
set_option maxHeartbeats 4000000 in
theorem fnFoldSame {rs : List Rw} {kd key : Int} (hl : (rs.length : Int) ≤ 9223372036854775807) (hr : ∀ r ∈ rs, RwOk r) (hkey : inR key) : FnC (En Tryd.prog gT) 11 [.pv (.lst 4 (rs.map rawE)), .pv (.int .i64 kd), .pv (.int .i64 key)] (.pv (.bool true)) [] := by
  have hE := EnOk gT
  obtain ⟨x, m', ⟨m0, m1, hty, hdp⟩, c1⟩ := exprOf_ex (g := gT) hl hr kd
  have hcs : ColsOk (colsH rs) := colsP_ok _
  have hR : (rs.take 40).length ≤ 40 := by rw [List.length_take]; omega
  have hR2 : ∀ r ∈ rs.take 40, RwOk r := fun r h => hr r (List.mem_of_mem_take h)
  obtain ⟨row, k', ⟨k0, k1, hrow⟩, c3⟩ := fnHeapRow (g := gT) hR hR2 hcs (colsH_k0 rs) (k := m') ⟨by omega, by omega⟩ hkey
  have hsz := dp_sz hdp
  have ct := fnEvalTells
  have hty2 := fold_ty hrow hty
  obtain ⟨hd2, hs2⟩ := fold_dp x
  have f1 := fnFold (g := gT) vstr hrow hty (by omega) (by omega)
  have f2 := fnFold (g := gT) vstr hrow hty2 (by omega) (by omega)
  rw [fold_fold] at f2
  have e1 := fnEval vstr hcs hrow hty (by omega) (by omega)
  have e2 := fnEval vstr hcs hrow hty2 (by omega) (by omega)
  rw [fold_val] at e2
  have sx := fnSameX (g := gT) (foldP x)
  have hop := op_pos hty2.wf
  clear hty hty2 hdp hsz hrow hcs hd2 hs2
  generalize foldP x = y at *
  generalize valP (colsH rs) row x = r at *
  generalize rs.take 40 = R at *
  generalize colsH rs = cs at *
  obtain ⟨⟨vk, vn, vb, vs⟩, e⟩ := r
  have s1 := sameV_iff.2 (rfl : (⟨vk, vn, vb, vs⟩ : Vl) = ⟨vk, vn, vb, vs⟩)
  dsimp only [vlA] at e1 e2
  exact FnC.go hE mixed Tryd.func11 [(22, .fnb _ _ _ _ c1), (28, .ln _ _ _ _ _ _ c3), (31, .fn _ _ _ f1), (36, .fn _ _ _ f2), (43, .fn _ _ _ e1), (50, .fn _ _ _ e2), (53, .fn _ _ _ ct), (56, .b true), (60, .b true), (65, .fn _ _ _ sx), (70, .b true), (75, .b true), (80, hEq _ { kd := vk, n := vn, b := vb, s := vs } { kd := vk, n := vn, b := vb, s := vs } true)]
end Go.Proofs.YtdigejpgjnhclaaDoor.Vm
end
end
end
end
end
end
