/- What an expression of a kind says of a row that fits is of that kind, or nothing; and which faults there may be. Conditions: none. -/
import Derived.Test.YtdigejpgjnhclaaDoorEvalE
import Derived.Test.YtdigejpgjnhclaaDoorValidA
namespace Go.Proofs.YtdigejpgjnhclaaDoor.Vm
open Go Go.RowKit Go.Lib
set_option linter.unusedVariables false
set_option linter.unusedSimpArgs false
/-- A row that fits columns. -/
structure RowOk (cs : List Kol) (row : List Vl) : Prop where
  len : row.length = cs.length
  ok : ∀ (i : Nat) c v, cs[i]? = some c → row[i]? = some v → Good v ∧ (v.kd = c.kd ∨ (v.kd = 0 ∧ c.nl = true))
theorem idxC_of {cs : List Kol} {s : ByteArray} {c : Kol} (h : findC cs s = some c) : ∃ i, idxC cs s = some i ∧ cs[i]? = some c := by
  unfold findC at h
  unfold idxC
  induction cs with
  | nil => simp at h
  | cons d cs ih =>
    by_cases hq : (d.nm.toList == s.toList) = true
    · rw [List.find?_cons_of_pos (by simpa using hq)] at h
      refine ⟨0, ?_, by simpa using h⟩
      rw [List.findIdx?_cons, if_pos (by simpa using hq)]
    · rw [List.find?_cons_of_neg (by simpa using hq)] at h
      obtain ⟨i, h1, h2⟩ := ih h
      refine ⟨i + 1, ?_, by simpa using h2⟩
      rw [List.findIdx?_cons, if_neg (by simpa using hq), h1]
      rfl
theorem tru_good {t : Int} (h : t = 0 ∨ t = 1 ∨ t = 2) : Good (tru t) ∧ Of 1 (tru t) := by
  rcases h with rfl | rfl | rfl
  · exact ⟨.bool 0 (.inl rfl), .inl rfl⟩
  · exact ⟨.null, .inr rfl⟩
  · exact ⟨.bool 1 (.inr rfl), .inl rfl⟩
theorem cmpB_in (op : Int) (v w : Vl) : cmpB op v w = 0 ∨ cmpB op v w = 1 ∨ cmpB op v w = 2 := by
  have i1 := cmpT_in v w (decide (ordV v w < 0))
  have i2 := cmpT_in v w (decide (ordV v w = 0))
  have i3 := cmpT_in w v (decide (ordV w v < 0))
  unfold cmpB
  repeat' split
  all_goals omega
theorem vN_good {n : Int} (h : inR n) : Good (vN n) ∧ Of 2 (vN n) := ⟨.int n h, .inl rfl⟩
/-- A value with its fault: if there is none it is a good one of a kind, or nothing. -/
def ResOk (k : Int) (r : Vl × Int) : Prop := (r.2 = 0 ∧ Good r.1 ∧ Of k r.1) ∨ (r.1 = v0 ∧ (r.2 = 1 ∨ r.2 = 6 ∨ r.2 = 7))
theorem one_ok {op k ka : Int} (h : UnTy op k ka) {v : Vl} (hv : Good v) (hk : Of ka v) : One op v ∧ ResOk k (one1 op v) := by
  rcases h with ⟨rfl, rfl, rfl⟩ | ⟨rfl, rfl, rfl⟩ | ⟨rfl, rfl, rfl⟩ | ⟨rfl, rfl, h1, h2⟩
  · rcases good_num hv hk with rfl | ⟨n, hn, rfl⟩
    · exact ⟨.inr (.inr (.inr ⟨rfl, .inl rfl⟩)), .inl ⟨rfl, .null, .inr rfl⟩⟩
    · refine ⟨.inr (.inr (.inr ⟨rfl, .inr ⟨n, hn, rfl⟩⟩)), ?_⟩
      by_cases hm : n = -9223372036854775808
      · right
        have e : one1 3 (vN n) = (v0, 6) := by unfold one1 vN; simp [hm]
        rw [e]
        exact ⟨rfl, .inr (.inl rfl)⟩
      · left
        have e : one1 3 (vN n) = (vN (-n), 0) := by unfold one1 vN; simp [hm]
        rw [e]
        have := vN_good (n := -n) (by unfold inR at *; omega)
        exact ⟨rfl, this.1, this.2⟩
  · have hl := good_log hv hk
    refine ⟨.inr (.inl ⟨rfl, hl⟩), .inl ?_⟩
    rcases hl with rfl | ⟨n, hn, rfl⟩
    · exact ⟨rfl, .null, .inr rfl⟩
    · exact ⟨rfl, .bool (1 - n) (by omega), .inl rfl⟩
  · rcases good_txt hv hk with rfl | ⟨s, hs, hvd, rfl⟩
    · exact ⟨.inr (.inr (.inl ⟨rfl, .inl rfl⟩)), .inl ⟨rfl, .null, .inr rfl⟩⟩
    · refine ⟨.inr (.inr (.inl ⟨rfl, .inr ⟨s, by omega, rfl⟩⟩)), .inl ?_⟩
      have := Lib.runeCount_le s
      have := vN_good (n := Lib.runeCount s) (by unfold inR; omega)
      exact ⟨rfl, this.1, this.2⟩
  · refine ⟨.inl ⟨rfl, by omega⟩, .inl ?_⟩
    have e : one1 17 v = (vB (decide (v.kd = 0)), 0) := rfl
    rw [e]
    refine ⟨rfl, ?_, .inl rfl⟩
    unfold vB
    split
    · exact .bool 1 (.inr rfl)
    · exact .bool 0 (.inl rfl)
theorem reck_ok {op a b : Int} (ha : inR a) (hb : inR b) : ResOk 2 (reck op a b) := by
  have good : ∀ n, inR n → ResOk 2 (vN n, 0) := fun n h => .inl ⟨rfl, (vN_good h).1, (vN_good h).2⟩
  have bad : ResOk 2 (v0, 6) := .inr ⟨rfl, .inr (.inl rfl)⟩
  unfold reck
  split
  · split
    · exact good _ (by assumption)
    · exact bad
  · split
    · split
      · exact good _ (by assumption)
      · exact bad
    · split
      · split
        · exact good _ (by assumption)
        · exact bad
      · split
        · exact .inr ⟨rfl, .inr (.inr rfl)⟩
        · split
          · exact good _ (by assumption)
          · exact bad
theorem two_ok {op k ka : Int} (h : BiTy op k ka) {v w : Vl} (hv : Good v) (hw : Good w) (kv : Of ka v) (kw : Of ka w) : ResOk k (two2 op v w) := by
  rcases h with ⟨h5, h8, rfl, rfl⟩ | ⟨h15, h16, rfl, rfl⟩ | ⟨rfl, rfl, rfl⟩ | ⟨rfl, rfl⟩ | ⟨h9, h14, rfl, hk1, hk2⟩
  · have e : two2 op v w = if v.kd = 0 ∨ w.kd = 0 then (v0, 0) else reck op v.n w.n := by
      unfold two2; rw [if_neg (by omega), if_neg (by omega), if_neg (by omega), if_neg (by omega), if_pos ⟨h5, h8⟩]
    rw [e]
    by_cases hn : v.kd = 0 ∨ w.kd = 0
    · rw [if_pos hn]; exact .inl ⟨rfl, .null, .inr rfl⟩
    · rw [if_neg hn]
      rcases good_num hv kv with rfl | ⟨a, ha, rfl⟩
      · exact absurd (.inl rfl) hn
      rcases good_num hw kw with rfl | ⟨b, hb, rfl⟩
      · exact absurd (.inr rfl) hn
      exact reck_ok ha hb
  · have p1 := prt_in (good_log hv kv)
    have p2 := prt_in (good_log hw kw)
    have ho : op = 15 ∨ op = 16 := by omega
    rcases ho with rfl | rfl
    · have := tru_good (t := minP (prt v) (prt w)) (by unfold minP; split <;> omega)
      exact .inl ⟨rfl, this.1, this.2⟩
    · have := tru_good (t := maxP (prt v) (prt w)) (by unfold maxP; split <;> omega)
      exact .inl ⟨rfl, this.1, this.2⟩
  · have e : two2 19 v w = if v.kd = 0 ∨ w.kd = 0 then (v0, 0) else joinP v.s w.s := rfl
    rw [e]
    by_cases hn : v.kd = 0 ∨ w.kd = 0
    · rw [if_pos hn]; exact .inl ⟨rfl, .null, .inr rfl⟩
    · rw [if_neg hn]
      rcases good_txt hv kv with rfl | ⟨a, ha, va, rfl⟩
      · exact absurd (.inl rfl) hn
      rcases good_txt hw kw with rfl | ⟨b, hb, vb, rfl⟩
      · exact absurd (.inr rfl) hn
      unfold joinP vS
      dsimp only
      split
      · exact .inr ⟨rfl, .inl rfl⟩
      · refine .inl ⟨rfl, .text _ ?_ (valid_append va vb), .inl rfl⟩
        rw [ByteArray.size_append]
        omega
  · exact .inl ⟨rfl, hw, kw⟩
  · have e : two2 op v w = (tru (cmpB op v w), 0) := by
      unfold two2; rw [if_neg (by omega), if_neg (by omega), if_neg (by omega), if_neg (by omega), if_neg (by omega)]
    rw [e]
    have := tru_good (cmpB_in op v w)
    exact .inl ⟨rfl, this.1, this.2⟩
theorem val_ok {cs : List Kol} {row : List Vl} (hr : RowOk cs row) {k : Int} {x : Xp} (h : Ty cs k x) : ResOk k (valP cs row x) := by
  induction h with
  | lit hv hn hk => exact .inl ⟨rfl, hv, hk⟩
  | @col c hf hn =>
    obtain ⟨i, h1, h2⟩ := idxC_of hf
    obtain ⟨hlt, _⟩ := List.getElem?_eq_some_iff.1 h2
    obtain ⟨v, hv⟩ : ∃ v, row[i]? = some v := ⟨_, List.getElem?_eq_getElem (by rw [hr.len]; exact hlt)⟩
    have e : valP cs row (.col c.nm) = (v, 0) := by
      simp only [valP, h1, List.getD_eq_getElem?_getD, hv, Option.getD_some]
    rw [e]
    obtain ⟨h3, h4⟩ := hr.ok i c v h2 hv
    exact .inl ⟨rfl, h3, h4.imp id (fun h => h.1)⟩
  | @un op k ka a h ha ih =>
    rcases ih with ⟨h1, h2, h3⟩ | ⟨h1, h2⟩
    · have e : valP cs row (.un op a) = one1 op (valP cs row a).1 := by simp only [valP]; rw [if_pos h1]
      rw [e]
      exact (one_ok h h2 h3).2
    · have e : valP cs row (.un op a) = (v0, (valP cs row a).2) := by simp only [valP]; rw [if_neg (by omega)]
      rw [e]
      exact .inr ⟨rfl, h2⟩
  | @bi op k ka a b h ha hb ia ib =>
    rcases ia with ⟨h1, h2, h3⟩ | ⟨h1, h2⟩
    · by_cases hs : short op (valP cs row a).1 = true
      · have e : valP cs row (.bi op a b) = ((valP cs row a).1, 0) := by simp only [valP]; rw [if_pos h1, if_pos hs]
        rw [e]
        refine .inl ⟨rfl, h2, ?_⟩
        have hop : op = 20 ∨ op = 15 ∨ op = 16 := by
          unfold short at hs
          simp only [Bool.or_eq_true, Bool.and_eq_true, decide_eq_true_eq] at hs
          omega
        unfold BiTy at h
        have : ka = k := by omega
        rw [← this]; exact h3
      · rcases ib with ⟨i1, i2, i3⟩ | ⟨i1, i2⟩
        · have e : valP cs row (.bi op a b) = two2 op (valP cs row a).1 (valP cs row b).1 := by simp only [valP]; rw [if_pos h1, if_neg hs, if_pos i1]
          rw [e]
          exact two_ok h h2 i2 h3 i3
        · have e : valP cs row (.bi op a b) = (v0, (valP cs row b).2) := by simp only [valP]; rw [if_pos h1, if_neg hs, if_neg (by omega)]
          rw [e]
          exact .inr ⟨rfl, i2⟩
    · have e : valP cs row (.bi op a b) = (v0, (valP cs row a).2) := by simp only [valP]; rw [if_neg (by omega)]
      rw [e]
      exact .inr ⟨rfl, h2⟩
end Go.Proofs.YtdigejpgjnhclaaDoor.Vm
