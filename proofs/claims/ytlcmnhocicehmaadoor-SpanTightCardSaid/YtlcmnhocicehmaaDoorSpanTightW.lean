/- SpanTight: its walk. Conditions: none beyond the tables of utf8. -/
import Derived.Test.YtlcmnhocicehmaaDoorEvalE
import Derived.Test.YtlcmnhocicehmaaDoorRunes
import Derived.Lib.RuneCount
import Derived.Test.YtlcmnhocicehmaaDoorKindC
import Derived.Test.YtlcmnhocicehmaaDoorEqW
import Derived.Test.YtlcmnhocicehmaaDoorExecT
import Derived.Test.YtlcmnhocicehmaaDoorCodeT
import Derived.Test.YtlcmnhocicehmaaDoorKindG
section
section
namespace Go.Proofs.YtlcmnhocicehmaaDoor.Vm
open Go Go.RowKit Go.Lib
set_option linter.unusedVariables false
set_option linter.unusedSimpArgs false
theorem decodeN_ext {n n' b0 b1 b2 b3 c1 c2 c3 : Nat} (hn : n ≤ n') (h1 : 1 < n → c1 = b1) (h2 : 2 < n → c2 = b2) (h3 : 3 < n → c3 = b3) (h : decodeN n b0 b1 b2 b3 ≠ (65533, 1)) : decodeN n' b0 c1 c2 c3 = decodeN n b0 b1 b2 b3 := by
  unfold decodeN at h ⊢
  by_cases k1 : b0 < 128
  · rw [if_pos k1, if_pos k1]
  rw [if_neg k1] at h ⊢
  rw [if_neg k1]
  by_cases k2 : b0 / 32 = 6 ∧ (1 < n ∧ b1 / 64 = 2)
  · have e1 := h1 k2.2.1
    subst e1
    rw [if_pos k2, if_pos ⟨k2.1, by omega, k2.2.2⟩]
  rw [if_neg k2] at h ⊢
  by_cases k3 : b0 / 16 = 14 ∧ (1 < n ∧ b1 / 64 = 2) ∧ (2 < n ∧ b2 / 64 = 2)
  · have e1 := h1 k3.2.1.1
    have e2 := h2 k3.2.2.1
    subst e1
    subst e2
    rw [if_pos k3, if_neg (by omega), if_pos ⟨k3.1, ⟨by omega, k3.2.1.2⟩, by omega, k3.2.2.2⟩]
  rw [if_neg k3] at h ⊢
  by_cases k4 : b0 / 8 = 30 ∧ (1 < n ∧ b1 / 64 = 2) ∧ (2 < n ∧ b2 / 64 = 2) ∧ (3 < n ∧ b3 / 64 = 2)
  · have e1 := h1 k4.2.1.1
    have e2 := h2 k4.2.2.1.1
    have e3 := h3 k4.2.2.2.1
    subst e1
    subst e2
    subst e3
    rw [if_pos k4, if_neg (by omega), if_neg (by omega), if_pos ⟨k4.1, ⟨by omega, k4.2.1.2⟩, ⟨by omega, k4.2.2.1.2⟩, by omega, k4.2.2.2.2⟩]
  rw [if_neg k4] at h
  exact absurd rfl h
theorem decodeL_app {a t : List UInt8} (ha : a ≠ []) (h : ¬ ((decodeL a).1 = 65533 ∧ (decodeL a).2 = 1)) : decodeL (a ++ t) = decodeL a := by
  have h' : decodeL a ≠ (65533, 1) := fun e => h (by rw [e]; exact ⟨rfl, rfl⟩)
  rw [decodeL_N] at h' ⊢
  rw [decodeL_N a]
  have hg : ∀ i, i < a.length → (a ++ t).getD i 0 = a.getD i 0 := fun i hi => by
    simp [List.getD_eq_getElem?_getD, List.getElem?_append_left hi]
  have hpos : 0 < a.length := List.length_pos_iff.2 ha
  rw [hg 0 hpos]
  exact decodeN_ext (by simp) (fun h => by rw [hg 1 h]) (fun h => by rw [hg 2 h]) (fun h => by rw [hg 3 h]) h'
theorem validD_app : ∀ (k : Nat) (a t : List UInt8), a.length ≤ k → validD a = true → validD (a ++ t) = validD t
  | 0, a, t, hk, h => by
    have e : a = [] := List.eq_nil_of_length_eq_zero (by omega)
    rw [e, List.nil_append]
  | k + 1, a, t, hk, h => by
    by_cases ha : a = []
    · subst ha; rfl
    · have hpos : 0 < a.length := List.length_pos_iff.2 ha
      rw [validD_step a ha] at h
      by_cases he : (decodeL a).1 = 65533 ∧ (decodeL a).2 = 1
      · rw [if_pos he] at h; cases h
      · rw [if_neg he] at h
        have hw := decodeL_width a
        have hl := decodeL_le a ha
        rw [validD_step (a ++ t) (by simp [ha]), decodeL_app ha he, if_neg he, List.drop_append_of_le_length hl]
        exact validD_app k (a.drop (decodeL a).2) t (by rw [List.length_drop]; omega) h
theorem valid_append {s t : ByteArray} (hs : validD s.data.toList = true) (ht : validD t.data.toList = true) : validD (s ++ t).data.toList = true := by
  have e : (s ++ t).data.toList = s.data.toList ++ t.data.toList := by simp
  rw [e, validD_app _ _ _ (Nat.le_refl _) hs]
  exact ht
end Go.Proofs.YtlcmnhocicehmaaDoor.Vm
end
section
namespace Go.Proofs.YtlcmnhocicehmaaDoor.Vm
open Go Go.RowKit Go.Lib
set_option linter.unusedVariables false
set_option linter.unusedSimpArgs false
/-- A row that fits columns. -/
structure RowOk (cs : List Kol) (row : List Vl) : Prop where
  len : row.length = cs.length
  ok : ∀ (i : Nat) c v, cs[i]? = some c → row[i]? = some v → Good v ∧ (v.kd = c.kd ∨ (v.kd = 0 ∧ c.nl = true))
theorem idxC_of {cs : List Kol} {s : ByteArray} {c : Kol} (h : findC cs s = some c) : ∃ i, idxC cs s = some i ∧ cs[i]? = some c := by
  unfold findC at h
  unfold idxC
  induction cs with
  | nil => simp at h
  | cons d cs ih =>
    by_cases hq : (d.nm.toList == s.toList) = true
    · rw [List.find?_cons_of_pos (by simpa using hq)] at h
      refine ⟨0, ?_, by simpa using h⟩
      rw [List.findIdx?_cons, if_pos (by simpa using hq)]
    · rw [List.find?_cons_of_neg (by simpa using hq)] at h
      obtain ⟨i, h1, h2⟩ := ih h
      refine ⟨i + 1, ?_, by simpa using h2⟩
      rw [List.findIdx?_cons, if_neg (by simpa using hq), h1]
      rfl
theorem tru_good {t : Int} (h : t = 0 ∨ t = 1 ∨ t = 2) : Good (tru t) ∧ Of 1 (tru t) := by
  rcases h with rfl | rfl | rfl
  · exact ⟨.bool 0 (.inl rfl), .inl rfl⟩
  · exact ⟨.null, .inr rfl⟩
  · exact ⟨.bool 1 (.inr rfl), .inl rfl⟩
theorem cmpB_in (op : Int) (v w : Vl) : cmpB op v w = 0 ∨ cmpB op v w = 1 ∨ cmpB op v w = 2 := by
  have i1 := cmpT_in v w (decide (ordV v w < 0))
  have i2 := cmpT_in v w (decide (ordV v w = 0))
  have i3 := cmpT_in w v (decide (ordV w v < 0))
  unfold cmpB
  repeat' split
  all_goals omega
theorem vN_good {n : Int} (h : inR n) : Good (vN n) ∧ Of 2 (vN n) := ⟨.int n h, .inl rfl⟩
/-- A value with its fault: if there is none it is a good one of a kind, or nothing. -/
def ResOk (k : Int) (r : Vl × Int) : Prop := (r.2 = 0 ∧ Good r.1 ∧ Of k r.1) ∨ (r.1 = v0 ∧ (r.2 = 1 ∨ r.2 = 6 ∨ r.2 = 7))
theorem one_ok {op k ka : Int} (h : UnTy op k ka) {v : Vl} (hv : Good v) (hk : Of ka v) : One op v ∧ ResOk k (one1 op v) := by
  rcases h with ⟨rfl, rfl, rfl⟩ | ⟨rfl, rfl, rfl⟩ | ⟨rfl, rfl, rfl⟩ | ⟨rfl, rfl, h1, h2⟩
  · rcases good_num hv hk with rfl | ⟨n, hn, rfl⟩
    · exact ⟨.inr (.inr (.inr ⟨rfl, .inl rfl⟩)), .inl ⟨rfl, .null, .inr rfl⟩⟩
    · refine ⟨.inr (.inr (.inr ⟨rfl, .inr ⟨n, hn, rfl⟩⟩)), ?_⟩
      by_cases hm : n = -9223372036854775808
      · right
        have e : one1 3 (vN n) = (v0, 6) := by unfold one1 vN; simp [hm]
        rw [e]
        exact ⟨rfl, .inr (.inl rfl)⟩
      · left
        have e : one1 3 (vN n) = (vN (-n), 0) := by unfold one1 vN; simp [hm]
        rw [e]
        have := vN_good (n := -n) (by unfold inR at *; omega)
        exact ⟨rfl, this.1, this.2⟩
  · have hl := good_log hv hk
    refine ⟨.inr (.inl ⟨rfl, hl⟩), .inl ?_⟩
    rcases hl with rfl | ⟨n, hn, rfl⟩
    · exact ⟨rfl, .null, .inr rfl⟩
    · exact ⟨rfl, .bool (1 - n) (by omega), .inl rfl⟩
  · rcases good_txt hv hk with rfl | ⟨s, hs, hvd, rfl⟩
    · exact ⟨.inr (.inr (.inl ⟨rfl, .inl rfl⟩)), .inl ⟨rfl, .null, .inr rfl⟩⟩
    · refine ⟨.inr (.inr (.inl ⟨rfl, .inr ⟨s, by omega, rfl⟩⟩)), .inl ?_⟩
      have := Lib.runeCount_le s
      have := vN_good (n := Lib.runeCount s) (by unfold inR; omega)
      exact ⟨rfl, this.1, this.2⟩
  · refine ⟨.inl ⟨rfl, by omega⟩, .inl ?_⟩
    have e : one1 17 v = (vB (decide (v.kd = 0)), 0) := rfl
    rw [e]
    refine ⟨rfl, ?_, .inl rfl⟩
    unfold vB
    split
    · exact .bool 1 (.inr rfl)
    · exact .bool 0 (.inl rfl)
theorem reck_ok {op a b : Int} (ha : inR a) (hb : inR b) : ResOk 2 (reck op a b) := by
  have good : ∀ n, inR n → ResOk 2 (vN n, 0) := fun n h => .inl ⟨rfl, (vN_good h).1, (vN_good h).2⟩
  have bad : ResOk 2 (v0, 6) := .inr ⟨rfl, .inr (.inl rfl)⟩
  unfold reck
  split
  · split
    · exact good _ (by assumption)
    · exact bad
  · split
    · split
      · exact good _ (by assumption)
      · exact bad
    · split
      · split
        · exact good _ (by assumption)
        · exact bad
      · split
        · exact .inr ⟨rfl, .inr (.inr rfl)⟩
        · split
          · exact good _ (by assumption)
          · exact bad
theorem two_ok {op k ka : Int} (h : BiTy op k ka) {v w : Vl} (hv : Good v) (hw : Good w) (kv : Of ka v) (kw : Of ka w) : ResOk k (two2 op v w) := by
  rcases h with ⟨h5, h8, rfl, rfl⟩ | ⟨h15, h16, rfl, rfl⟩ | ⟨rfl, rfl, rfl⟩ | ⟨rfl, rfl⟩ | ⟨h9, h14, rfl, hk1, hk2⟩
  · have e : two2 op v w = if v.kd = 0 ∨ w.kd = 0 then (v0, 0) else reck op v.n w.n := by
      unfold two2; rw [if_neg (by omega), if_neg (by omega), if_neg (by omega), if_neg (by omega), if_pos ⟨h5, h8⟩]
    rw [e]
    by_cases hn : v.kd = 0 ∨ w.kd = 0
    · rw [if_pos hn]; exact .inl ⟨rfl, .null, .inr rfl⟩
    · rw [if_neg hn]
      rcases good_num hv kv with rfl | ⟨a, ha, rfl⟩
      · exact absurd (.inl rfl) hn
      rcases good_num hw kw with rfl | ⟨b, hb, rfl⟩
      · exact absurd (.inr rfl) hn
      exact reck_ok ha hb
  · have p1 := prt_in (good_log hv kv)
    have p2 := prt_in (good_log hw kw)
    have ho : op = 15 ∨ op = 16 := by omega
    rcases ho with rfl | rfl
    · have := tru_good (t := minP (prt v) (prt w)) (by unfold minP; split <;> omega)
      exact .inl ⟨rfl, this.1, this.2⟩
    · have := tru_good (t := maxP (prt v) (prt w)) (by unfold maxP; split <;> omega)
      exact .inl ⟨rfl, this.1, this.2⟩
  · have e : two2 19 v w = if v.kd = 0 ∨ w.kd = 0 then (v0, 0) else joinP v.s w.s := rfl
    rw [e]
    by_cases hn : v.kd = 0 ∨ w.kd = 0
    · rw [if_pos hn]; exact .inl ⟨rfl, .null, .inr rfl⟩
    · rw [if_neg hn]
      rcases good_txt hv kv with rfl | ⟨a, ha, va, rfl⟩
      · exact absurd (.inl rfl) hn
      rcases good_txt hw kw with rfl | ⟨b, hb, vb, rfl⟩
      · exact absurd (.inr rfl) hn
      unfold joinP vS
      dsimp only
      split
      · exact .inr ⟨rfl, .inl rfl⟩
      · refine .inl ⟨rfl, .text _ ?_ (valid_append va vb), .inl rfl⟩
        rw [ByteArray.size_append]
        omega
  · exact .inl ⟨rfl, hw, kw⟩
  · have e : two2 op v w = (tru (cmpB op v w), 0) := by
      unfold two2; rw [if_neg (by omega), if_neg (by omega), if_neg (by omega), if_neg (by omega), if_neg (by omega)]
    rw [e]
    have := tru_good (cmpB_in op v w)
    exact .inl ⟨rfl, this.1, this.2⟩
theorem val_ok {cs : List Kol} {row : List Vl} (hr : RowOk cs row) {k : Int} {x : Xp} (h : Ty cs k x) : ResOk k (valP cs row x) := by
  induction h with
  | lit hv hn hk => exact .inl ⟨rfl, hv, hk⟩
  | @col c hf hn =>
    obtain ⟨i, h1, h2⟩ := idxC_of hf
    obtain ⟨hlt, _⟩ := List.getElem?_eq_some_iff.1 h2
    obtain ⟨v, hv⟩ : ∃ v, row[i]? = some v := ⟨_, List.getElem?_eq_getElem (by rw [hr.len]; exact hlt)⟩
    have e : valP cs row (.col c.nm) = (v, 0) := by
      simp only [valP, h1, List.getD_eq_getElem?_getD, hv, Option.getD_some]
    rw [e]
    obtain ⟨h3, h4⟩ := hr.ok i c v h2 hv
    exact .inl ⟨rfl, h3, h4.imp id (fun h => h.1)⟩
  | @un op k ka a h ha ih =>
    rcases ih with ⟨h1, h2, h3⟩ | ⟨h1, h2⟩
    · have e : valP cs row (.un op a) = one1 op (valP cs row a).1 := by simp only [valP]; rw [if_pos h1]
      rw [e]
      exact (one_ok h h2 h3).2
    · have e : valP cs row (.un op a) = (v0, (valP cs row a).2) := by simp only [valP]; rw [if_neg (by omega)]
      rw [e]
      exact .inr ⟨rfl, h2⟩
  | @bi op k ka a b h ha hb ia ib =>
    rcases ia with ⟨h1, h2, h3⟩ | ⟨h1, h2⟩
    · by_cases hs : short op (valP cs row a).1 = true
      · have e : valP cs row (.bi op a b) = ((valP cs row a).1, 0) := by simp only [valP]; rw [if_pos h1, if_pos hs]
        rw [e]
        refine .inl ⟨rfl, h2, ?_⟩
        have hop : op = 20 ∨ op = 15 ∨ op = 16 := by
          unfold short at hs
          simp only [Bool.or_eq_true, Bool.and_eq_true, decide_eq_true_eq] at hs
          omega
        unfold BiTy at h
        have : ka = k := by omega
        rw [← this]; exact h3
      · rcases ib with ⟨i1, i2, i3⟩ | ⟨i1, i2⟩
        · have e : valP cs row (.bi op a b) = two2 op (valP cs row a).1 (valP cs row b).1 := by simp only [valP]; rw [if_pos h1, if_neg hs, if_pos i1]
          rw [e]
          exact two_ok h h2 i2 h3 i3
        · have e : valP cs row (.bi op a b) = (v0, (valP cs row b).2) := by simp only [valP]; rw [if_pos h1, if_neg hs, if_neg (by omega)]
          rw [e]
          exact .inr ⟨rfl, i2⟩
    · have e : valP cs row (.bi op a b) = (v0, (valP cs row a).2) := by simp only [valP]; rw [if_neg (by omega)]
      rw [e]
      exact .inr ⟨rfl, h2⟩
end Go.Proofs.YtlcmnhocicehmaaDoor.Vm
end
end
section
section
namespace Go.Proofs.YtlcmnhocicehmaaDoor.Vm
open Go Go.RowKit Go.Lib
set_option linter.unusedVariables false
set_option linter.unusedSimpArgs false
def litP : Xp → Option Int
  | .lit v => if v.kd = 2 then some v.n else none
  | .un op (.lit v) => if op = 3 ∧ v.kd = 2 then some (-v.n) else none
  | _ => none
def allR : Int × Int := (-9223372036854775808, 9223372036854775807)
def bndP (op n : Int) : Int × Int :=
  if op = 9 then (n, n) else if op = 11 then (if n = -9223372036854775808 then (1, 0) else (-9223372036854775808, n - 1)) else if op = 12 then (-9223372036854775808, n)
  else if op = 13 then (if n = 9223372036854775807 then (1, 0) else (n + 1, 9223372036854775807)) else if op = 14 then (n, 9223372036854775807) else allR
def turnO (op : Int) : Int := if op = 11 then 13 else if op = 12 then 14 else if op = 13 then 11 else if op = 14 then 12 else op
def isC (s : ByteArray) : Xp → Bool
  | .col t => t.toList == s.toList
  | _ => false
def cmpR (s : ByteArray) (op : Int) (a b : Xp) : Int × Int :=
  match litP b, isC s a with
  | some n, true => bndP op n
  | _, _ => match litP a, isC s b with
    | some n, true => bndP (turnO op) n
    | _, _ => allR
def ofR (s : ByteArray) : Xp → Int × Int
  | .bi op a b => if op = 15 then (if (ofR s b).1 > (ofR s a).1 then (ofR s b).1 else (ofR s a).1, if (ofR s b).2 < (ofR s a).2 then (ofR s b).2 else (ofR s a).2) else if op < 9 ∨ 14 < op then allR else cmpR s op a b
  | _ => allR
/-- The order of two numbers. -/
theorem ordV_int (n m : Int) : ordV (vN n) (vN m) = if n < m then -1 else if m < n then 1 else 0 := by
  unfold ordV lessB moreB vN
  simp
theorem lit_val {cs : List Kol} {row : List Vl} {x : Xp} {n : Int} (h : litP x = some n) (hw : x.wf) : valP cs row x = (vN n, 0) ∧ (-9223372036854775807 ≤ n ∧ n ≤ 9223372036854775807) := by
  cases x with
  | lit v =>
    simp only [litP] at h
    split at h
    · rename_i hk
      obtain rfl := Option.some.inj h
      obtain ⟨hg, h0⟩ := hw
      cases hg with
      | int m hm => exact ⟨rfl, by dsimp only at h0 ⊢; omega⟩
      | _ => exact absurd hk (by simp)
    · cases h
  | un op a =>
    cases a with
    | lit v =>
      simp only [litP] at h
      split at h
      · rename_i hk
        obtain rfl := Option.some.inj h
        obtain ⟨_, hg, h0⟩ := hw
        obtain ⟨rfl, hk⟩ := hk
        cases hg with
        | int m hm =>
          dsimp only at h0 ⊢
          refine ⟨?_, by omega⟩
          simp only [valP, if_true]
          unfold one1
          rw [if_neg (by omega), if_neg (by simp), if_neg (by omega), if_neg (by omega), if_neg (by dsimp only; omega)]
        | _ => exact absurd hk (by simp)
      · cases h
    | _ => cases h
  | _ => cases h
/-- What span.literal answers. -/
def litR : Xp → Int × Bool
  | .lit v => (v.n, decide (v.kd = 2))
  | .un op (.lit v) => if op = 3 ∧ v.kd = 2 then (-v.n, true) else (0, false)
  | _ => (0, false)
theorem litP_R (x : Xp) : litP x = if (litR x).2 = true then some (litR x).1 else none := by
  cases x with
  | lit v => simp only [litP, litR, decide_eq_true_eq]
  | un op a =>
    cases a with
    | lit v =>
      simp only [litP, litR]
      split <;> rfl
    | _ => rfl
  | _ => rfl
theorem isC_iff (s : ByteArray) (x : Xp) (h : x.wf) : isC s x = (decide (x.op = 2) && (x.nm.toList == s.toList)) := by
  cases x with
  | lit v => rfl
  | col t => rfl
  | un op a =>
    have := h.1
    unfold UnOp at this
    have h2 : decide ((Xp.un op a).op = 2) = false := decide_eq_false (by simp only [Xp.op]; omega)
    rw [h2]; rfl
  | bi op a b =>
    have := h.1
    unfold BiOp at this
    have h2 : decide ((Xp.bi op a b).op = 2) = false := decide_eq_false (by simp only [Xp.op]; omega)
    rw [h2]; rfl
theorem cmpR_eq (s : ByteArray) (op : Int) (a b : Xp) : cmpR s op a b = if (litR b).2 = true ∧ isC s a = true then bndP op (litR b).1 else if (litR a).2 = true ∧ isC s b = true then bndP (turnO op) (litR a).1 else allR := by
  unfold cmpR
  rw [litP_R a, litP_R b]
  cases (litR b).2 <;> cases isC s a <;> cases (litR a).2 <;> cases isC s b <;> simp
theorem litR_in {x : Xp} (h : x.wf) : -9223372036854775807 ≤ (litR x).1 ∧ (litR x).1 ≤ 9223372036854775807 ∨ (litR x).2 = false := by
  cases hl : (litR x).2 with
  | false => exact .inr rfl
  | true =>
    have h1 := litP_R x
    rw [hl, if_pos rfl] at h1
    exact .inl (lit_val (cs := []) (row := []) h1 h).2
/-- The range as it is told: none is told in one way. -/
def spanR (s : ByteArray) (x : Xp) : Int × Int := if (ofR s x).1 > (ofR s x).2 then (1, 0) else ofR s x
end Go.Proofs.YtlcmnhocicehmaaDoor.Vm
end
section
section
namespace Go.Proofs.YtlcmnhocicehmaaDoor.Vm
open Go Go.RowKit Go.Lib
set_option linter.unusedVariables false
set_option linter.unusedSimpArgs false
attribute [local irreducible] Ops Dr Run
variable {g : Nat → Option (List PV)}
def sameR (p q : Int × Int) : Bool := decide (p.1 = q.1) && (decide (p.2 = q.2) && true)
theorem eq_rng (p q : Int × Int) (W : World) : (Op.equalIn 10000 40 (.agg [Value.int .i64 p.1, .int .i64 p.2].toArray) (.agg [Value.int .i64 q.1, .int .i64 q.2].toArray)).run Tryd.prog W = .ok (sameR p q) W := by
  refine eqSW (d := 9999) Tryd.underlying40 (by kernel_rfl) ?_
  unfold sameR
  refine eqfW rfl (part_plainW (by kernel_rfl) rfl) (part_plainW (by kernel_rfl) rfl) (eq_intW Tryd.underlying3 9998 _ _) ?_
  refine eqfW rfl (part_plainW (by kernel_rfl) rfl) (part_plainW (by kernel_rfl) rfl) (eq_intW Tryd.underlying3 9998 _ _) ?_
  rfl
/-- Two ranges compared. -/
def hEqR (g : Nat → Option (List PV)) (p q : Int × Int) (c : Bool) : Hint (En Tryd.prog g) := .eq 40 _ _ (sameR p q) c (by kernel_rfl) (eq_rng p q)
abbrev rngA (r : Int × Int) : AV := .agg [.pv (.int .i64 r.1), .pv (.int .i64 r.2)]
theorem fnLiteral (x : Xp) (hw : x.wf) : FnC (En Tryd.prog g) 57 [xA x] (.tup [.pv (.int .i64 (litR x).1), .pv (.bool (litR x).2)]) [] := by
  have hE := EnOk g
  cases x with
  | lit v =>
    obtain ⟨vk, vn, vb, vs⟩ := v
    dsimp only [xA, Xp.op, Xp.v, Xp.nm, Xp.as, litR]
    by_cases hk : vk = 2
    ·
      rw [decide_eq_true hk]
      exact FnC.go hE mixed Tryd.func57 [(6, .b false), (36, .b true), (41, .b true)]
    ·
      rw [decide_eq_false hk]
      exact FnC.go hE mixed Tryd.func57 [(6, .b false), (36, .b true), (41, .b false)]
  | col s =>
    dsimp only [xA, Xp.op, Xp.v, Xp.nm, Xp.as, litR]
    exact FnC.go hE mixed Tryd.func57 [(6, .b false), (36, .b false)]
  | un op a =>
    by_cases h3 : op = 3
    ·
      subst h3
      cases a with
      | lit v =>
        obtain ⟨_, hg, hn⟩ := hw
        obtain ⟨vk, vn, vb, vs⟩ := v
        have hr : vn ≤ 9223372036854775807 := by cases hg <;> omega
        dsimp only [xA, Xp.op, Xp.v, Xp.nm, Xp.as, litR] at hn ⊢
        by_cases hk : vk = 2
        ·
          rw [if_pos ⟨rfl, hk⟩]
          exact FnC.go hE mixed Tryd.func57 [(6, .b true), (13, .b true), (22, .b true)]
        ·
          rw [if_neg (fun h => hk h.2)]
          exact FnC.go hE mixed Tryd.func57 [(6, .b true), (13, .b true), (22, .b false), (36, .b false)]
      | col s =>
        dsimp only [xA, Xp.op, Xp.v, Xp.nm, Xp.as, litR]
        exact FnC.go hE mixed Tryd.func57 [(6, .b true), (13, .b false), (36, .b false)]
      | un o b =>
        have ho : o ≠ 1 := by have := hw.2.1; unfold UnOp at this; omega
        dsimp only [xA, Xp.op, Xp.v, Xp.nm, Xp.as, litR]
        exact FnC.go hE mixed Tryd.func57 [(6, .b true), (13, .b false), (36, .b false)]
      | bi o b c =>
        have ho : o ≠ 1 := by have := hw.2.1; unfold BiOp at this; omega
        dsimp only [xA, Xp.op, Xp.v, Xp.nm, Xp.as, litR]
        exact FnC.go hE mixed Tryd.func57 [(6, .b true), (13, .b false), (36, .b false)]
    ·
      have ho : op ≠ 1 := by have := hw.1; unfold UnOp at this; omega
      have hl : litR (.un op a) = (0, false) := by
        cases a with
        | lit v => simp only [litR]; rw [if_neg (fun h => h3 h.1)]
        | _ => rfl
      rw [hl]
      dsimp only [xA, Xp.op, Xp.v, Xp.nm, Xp.as]
      exact FnC.go hE mixed Tryd.func57 [(6, .b false), (36, .b false)]
  | bi op a b =>
    have h1 : op ≠ 1 := by have := hw.1; unfold BiOp at this; omega
    have h3 : op ≠ 3 := by have := hw.1; unfold BiOp at this; omega
    dsimp only [xA, Xp.op, Xp.v, Xp.nm, Xp.as, litR]
    exact FnC.go hE mixed Tryd.func57 [(6, .b false), (36, .b false)]
theorem fnTurned {op : Int} (h : 9 ≤ op ∧ op ≤ 14) : FnC (En Tryd.prog g) 59 [.pv (.int .i64 op)] (.pv (.int .i64 (turnO op))) [] := by
  have hE := EnOk g
  have ho : op = 9 ∨ op = 10 ∨ op = 11 ∨ op = 12 ∨ op = 13 ∨ op = 14 := by omega
  rcases ho with rfl | rfl | rfl | rfl | rfl | rfl
  · exact FnC.go hE mixed Tryd.func59 [(5, .b false), (7, .b false), (9, .b false), (11, .b false)]
  · exact FnC.go hE mixed Tryd.func59 [(5, .b false), (7, .b false), (9, .b false), (11, .b false)]
  · exact FnC.go hE mixed Tryd.func59 [(5, .b true)]
  · exact FnC.go hE mixed Tryd.func59 [(5, .b false), (7, .b true)]
  · exact FnC.go hE mixed Tryd.func59 [(5, .b false), (7, .b false), (9, .b true)]
  · exact FnC.go hE mixed Tryd.func59 [(5, .b false), (7, .b false), (9, .b false), (11, .b true)]
theorem fnNoneR : FnC (En Tryd.prog g) 38 [] (rngA (1, 0)) [] := by
  have hE := EnOk g
  exact FnC.go hE mixed Tryd.func38 []
theorem fnBounds {op n : Int} (h : 9 ≤ op ∧ op ≤ 14) (hn : -9223372036854775807 ≤ n ∧ n ≤ 9223372036854775807) : FnC (En Tryd.prog g) 58 [.pv (.int .i64 op), .pv (.int .i64 n)] (rngA (bndP op n)) [] := by
  have hE := EnOk g
  have hlo : ¬ n = -9223372036854775808 := by omega
  have c0 := fnNoneR (g := g)
  have ho : op = 9 ∨ op = 10 ∨ op = 11 ∨ op = 12 ∨ op = 13 ∨ op = 14 := by omega
  rcases ho with rfl | rfl | rfl | rfl | rfl | rfl
  ·
    dsimp only [rngA]
    rw [show bndP 9 n = (n, n) from rfl]
    exact FnC.go hE mixed Tryd.func58 [(9, .b true)]
  ·
    rw [show bndP 10 n = allR from rfl]
    dsimp only [rngA, allR]
    exact FnC.go hE mixed Tryd.func58 [(9, .b false), (14, .b false), (22, .b false), (26, .b false), (34, .b false)]
  ·
    have e : bndP 11 n = (-9223372036854775808, n - 1) := by simp [bndP, hlo]
    rw [e]
    exact FnC.go hE mixed Tryd.func58 [(9, .b false), (14, .b true), (16, .b false)]
  ·
    rw [show bndP 12 n = (-9223372036854775808, n) from rfl]
    exact FnC.go hE mixed Tryd.func58 [(9, .b false), (14, .b false), (22, .b true)]
  ·
    by_cases hh : n = 9223372036854775807
    ·
      have e : bndP 13 n = (1, 0) := by simp [bndP, hh]
      rw [e]
      exact FnC.go hE mixed Tryd.func58 [(9, .b false), (14, .b false), (22, .b false), (26, .b true), (28, .b true), (29, .fn _ _ _ c0)]
    ·
      have e : bndP 13 n = (n + 1, 9223372036854775807) := by simp [bndP, hh]
      rw [e]
      exact FnC.go hE mixed Tryd.func58 [(9, .b false), (14, .b false), (22, .b false), (26, .b true), (28, .b false)]
  ·
    rw [show bndP 14 n = (n, 9223372036854775807) from rfl]
    exact FnC.go hE mixed Tryd.func58 [(9, .b false), (14, .b false), (22, .b false), (26, .b false), (34, .b true)]
theorem fnSof (s : ByteArray) (x : Xp) (hw : x.wf) : FnC (En Tryd.prog g) 37 [xA x, .pv (.str s)] (rngA (ofR s x)) [] := by
  have hE := EnOk g
  induction x with
  | lit v =>
    dsimp only [xA, Xp.op, Xp.v, Xp.nm, Xp.as, ofR, allR]
    exact FnC.go hE mixed Tryd.func37 [(18, .b false), (45, .b true)]
  | col t =>
    dsimp only [xA, Xp.op, Xp.v, Xp.nm, Xp.as, ofR, allR]
    exact FnC.go hE mixed Tryd.func37 [(18, .b false), (45, .b true)]
  | un op a ih =>
    have ho : op < 9 ∨ 14 < op := by have := hw.1; unfold UnOp at this; omega
    have h15 : op ≠ 15 := by have := hw.1; unfold UnOp at this; omega
    dsimp only [xA, Xp.op, Xp.v, Xp.nm, Xp.as, ofR, allR]
    rcases ho with ho | ho
    · exact FnC.go hE mixed Tryd.func37 [(18, .b false), (45, .b true)]
    · exact FnC.go hE mixed Tryd.func37 [(18, .b false), (45, .b false), (49, .b true)]
  | bi op a b ia ib =>
    have ia := ia hw.2.1
    have ib := ib hw.2.2
    by_cases h15 : op = 15
    ·
      have e : ofR s (.bi op a b) = (if (ofR s b).1 > (ofR s a).1 then (ofR s b).1 else (ofR s a).1, if (ofR s b).2 < (ofR s a).2 then (ofR s b).2 else (ofR s a).2) := by simp only [ofR, if_pos h15]
      rw [e]
      generalize ofR s a = p at *
      generalize ofR s b = q at *
      obtain ⟨p1, p2⟩ := p
      obtain ⟨q1, q2⟩ := q
      clear e
      dsimp only [xA, Xp.op, Xp.v, Xp.nm, Xp.as, rngA] at ia ib ⊢
      exact FnC.go hE mixed Tryd.func37 [(18, .b true), (24, .fn _ _ _ ia), (30, .fn _ _ _ ib)]
    by_cases hlo : op < 9
    ·
      have e : ofR s (.bi op a b) = allR := by simp only [ofR]; rw [if_neg h15, if_pos (.inl hlo)]
      rw [e]
      dsimp only [xA, Xp.op, Xp.v, Xp.nm, Xp.as, rngA, allR]
      exact FnC.go hE mixed Tryd.func37 [(18, .b false), (45, .b true)]
    by_cases hhi : 14 < op
    ·
      have e : ofR s (.bi op a b) = allR := by simp only [ofR]; rw [if_neg h15, if_pos (.inr hhi)]
      rw [e]
      dsimp only [xA, Xp.op, Xp.v, Xp.nm, Xp.as, rngA, allR]
      exact FnC.go hE mixed Tryd.func37 [(18, .b false), (45, .b false), (49, .b true)]
    have e : ofR s (.bi op a b) = cmpR s op a b := by simp only [ofR]; rw [if_neg h15, if_neg (by omega)]
    rw [e, cmpR_eq, isC_iff s a hw.2.1, isC_iff s b hw.2.2]
    have la := fnLiteral (g := g) a hw.2.1
    have lb := fnLiteral (g := g) b hw.2.2
    have ra := litR_in hw.2.1
    have rb := litR_in hw.2.2
    have ct := fnTurned (g := g) (op := op) (by omega)
    have ht : 9 ≤ turnO op ∧ turnO op ≤ 14 := by unfold turnO; repeat' split <;> omega
    clear ia ib e
    generalize litR a = A at *
    generalize litR b = B at *
    obtain ⟨n, ok⟩ := A
    obtain ⟨m, pk⟩ := B
    change FnC (En Tryd.prog g) 37 [.agg [.pv (.int .i64 op), .pv (.int .i64 0), .pv (.int .i64 0), .pv (.int .u64 0), .pv (.str noS), .pv (.str noS), .pv (.lst 7 [xE a, xE b])], .pv (.str s)] _ []
    dsimp only [xA, xE, rngA, allR] at la lb ra rb ⊢
    clear hw
    generalize a.op = ao at *
    generalize a.v = av at *
    generalize a.nm = an at *
    generalize a.as = aa at *
    generalize b.op = bo at *
    generalize b.v = bv at *
    generalize b.nm = bn at *
    generalize b.as = ba at *
    cases pk with
    | false =>
      rw [if_neg (fun h => by cases h.1)]
      cases ok with
      | false =>
        rw [if_neg (fun h => by cases h.1)]
        exact FnC.go hE mixed Tryd.func37 [(18, .b false), (45, .b false), (49, .b false), (62, .fn _ _ _ lb), (83, .fn _ _ _ la)]
      | true =>
        by_cases hb2 : bo = 2
        ·
          by_cases hbn : (bn.toList == s.toList) = true
          ·
            rw [if_pos ⟨rfl, by rw [hbn, decide_eq_true hb2]; rfl⟩]
            have cb := fnBounds (g := g) (n := n) ht (by rcases ra with h | h <;> first | exact h | cases h)
            dsimp only [rngA] at cb
            generalize bndP (turnO op) n = r at *
            obtain ⟨r1, r2⟩ := r
            exact FnC.go hE mixed Tryd.func37 [(18, .b false), (45, .b false), (49, .b false), (62, .fn _ _ _ lb), (83, .fn _ _ _ la), (90, .b true), (96, .b true), (100, .fn _ _ _ ct), (102, .fn _ _ _ cb)]
          ·
            have hbn := Bool.eq_false_iff.2 hbn
            rw [if_neg (fun h => by rw [hbn] at h; simp at h)]
            exact FnC.go hE mixed Tryd.func37 [(18, .b false), (45, .b false), (49, .b false), (62, .fn _ _ _ lb), (83, .fn _ _ _ la), (90, .b true), (96, .b false)]
        ·
          rw [if_neg (fun h => by rw [decide_eq_false hb2] at h; simp at h)]
          exact FnC.go hE mixed Tryd.func37 [(18, .b false), (45, .b false), (49, .b false), (62, .fn _ _ _ lb), (83, .fn _ _ _ la), (90, .b false)]
    | true =>
      by_cases ha2 : ao = 2
      ·
        by_cases han : (an.toList == s.toList) = true
        ·
          rw [if_pos ⟨rfl, by rw [han, decide_eq_true ha2]; rfl⟩]
          have cb := fnBounds (g := g) (op := op) (n := m) (by omega) (by rcases rb with h | h <;> first | exact h | cases h)
          dsimp only [rngA] at cb
          generalize bndP op m = r at *
          obtain ⟨r1, r2⟩ := r
          exact FnC.go hE mixed Tryd.func37 [(18, .b false), (45, .b false), (49, .b false), (62, .fn _ _ _ lb), (69, .b true), (75, .b true), (80, .fn _ _ _ cb)]
        ·
          have han := Bool.eq_false_iff.2 han
          rw [if_neg (fun h => by rw [han] at h; simp at h)]
          cases ok with
          | false =>
            rw [if_neg (fun h => by cases h.1)]
            exact FnC.go hE mixed Tryd.func37 [(18, .b false), (45, .b false), (49, .b false), (62, .fn _ _ _ lb), (69, .b true), (75, .b false), (83, .fn _ _ _ la)]
          | true =>
            by_cases hb2 : bo = 2
            ·
              by_cases hbn : (bn.toList == s.toList) = true
              ·
                rw [if_pos ⟨rfl, by rw [hbn, decide_eq_true hb2]; rfl⟩]
                have cb := fnBounds (g := g) (n := n) ht (by rcases ra with h | h <;> first | exact h | cases h)
                dsimp only [rngA] at cb
                generalize bndP (turnO op) n = r at *
                obtain ⟨r1, r2⟩ := r
                exact FnC.go hE mixed Tryd.func37 [(18, .b false), (45, .b false), (49, .b false), (62, .fn _ _ _ lb), (69, .b true), (75, .b false), (83, .fn _ _ _ la), (90, .b true), (96, .b true), (100, .fn _ _ _ ct), (102, .fn _ _ _ cb)]
              ·
                have hbn := Bool.eq_false_iff.2 hbn
                rw [if_neg (fun h => by rw [hbn] at h; simp at h)]
                exact FnC.go hE mixed Tryd.func37 [(18, .b false), (45, .b false), (49, .b false), (62, .fn _ _ _ lb), (69, .b true), (75, .b false), (83, .fn _ _ _ la), (90, .b true), (96, .b false)]
            ·
              rw [if_neg (fun h => by rw [decide_eq_false hb2] at h; simp at h)]
              exact FnC.go hE mixed Tryd.func37 [(18, .b false), (45, .b false), (49, .b false), (62, .fn _ _ _ lb), (69, .b true), (75, .b false), (83, .fn _ _ _ la), (90, .b false)]
      ·
        rw [if_neg (fun h => by rw [decide_eq_false ha2] at h; simp at h)]
        cases ok with
        | false =>
          rw [if_neg (fun h => by cases h.1)]
          exact FnC.go hE mixed Tryd.func37 [(18, .b false), (45, .b false), (49, .b false), (62, .fn _ _ _ lb), (69, .b false), (83, .fn _ _ _ la)]
        | true =>
          by_cases hb2 : bo = 2
          ·
            by_cases hbn : (bn.toList == s.toList) = true
            ·
              rw [if_pos ⟨rfl, by rw [hbn, decide_eq_true hb2]; rfl⟩]
              have cb := fnBounds (g := g) (n := n) ht (by rcases ra with h | h <;> first | exact h | cases h)
              dsimp only [rngA] at cb
              generalize bndP (turnO op) n = r at *
              obtain ⟨r1, r2⟩ := r
              exact FnC.go hE mixed Tryd.func37 [(18, .b false), (45, .b false), (49, .b false), (62, .fn _ _ _ lb), (69, .b false), (83, .fn _ _ _ la), (90, .b true), (96, .b true), (100, .fn _ _ _ ct), (102, .fn _ _ _ cb)]
            ·
              have hbn := Bool.eq_false_iff.2 hbn
              rw [if_neg (fun h => by rw [hbn] at h; simp at h)]
              exact FnC.go hE mixed Tryd.func37 [(18, .b false), (45, .b false), (49, .b false), (62, .fn _ _ _ lb), (69, .b false), (83, .fn _ _ _ la), (90, .b true), (96, .b false)]
          ·
            rw [if_neg (fun h => by rw [decide_eq_false hb2] at h; simp at h)]
            exact FnC.go hE mixed Tryd.func37 [(18, .b false), (45, .b false), (49, .b false), (62, .fn _ _ _ lb), (69, .b false), (83, .fn _ _ _ la), (90, .b false)]
theorem fnSpanOf (hV : VStr g) (s : ByteArray) {x : Xp} (hw : x.wf) (hd : x.dp ≤ 7) (hs : x.sz ≤ 40) : FnC (En Tryd.prog g) 15 [xA x, .pv (.str s)] (.tup [rngA (spanR s x), .pv (.int .i64 0)]) [] := by
  have hE := EnOk g
  have c1 := fnXCheck hV hw hd hs
  have c2 := fnSof (g := g) s x hw
  have c0 := fnNoneR (g := g)
  unfold spanR
  generalize ofR s x = r at *
  obtain ⟨r1, r2⟩ := r
  dsimp only [rngA] at c2 ⊢
  clear hw hd hs
  by_cases h : r1 > r2
  ·
    rw [if_pos h]
    exact FnC.go hE mixed Tryd.func15 [(9, .fn _ _ _ c1), (11, .b false), (16, .fn _ _ _ c2), (21, .b true), (22, .fn _ _ _ c0)]
  ·
    rw [if_neg h]
    exact FnC.go hE mixed Tryd.func15 [(9, .fn _ _ _ c1), (11, .b false), (16, .fn _ _ _ c2), (21, .b false)]
end Go.Proofs.YtlcmnhocicehmaaDoor.Vm
end
section
section
namespace Go.Proofs.YtlcmnhocicehmaaDoor.Vm
open Go Go.RowKit Go.Lib
set_option linter.unusedVariables false
set_option linter.unusedSimpArgs false
attribute [local irreducible] Ops Dr Run
/-- The type of the thing that an expression is made ready as. -/
def Xp.tid (cs : List Kol) : Xp → TypeId
  | .lit _ => 125
  | .col _ => 127
  | .un _ _ => 121
  | .bi _ _ _ => 123
def Xp.pay (cs : List Kol) : Xp → List PV
  | .lit v => [.int .i64 v.kd, .int .i64 v.n, .int .u64 v.b, .str v.s]
  | .col s => [.int .i64 (((idxC cs s).getD 0 : Nat) : Int)]
  | .un op a => [.int .i64 op, .ifc (a.tid cs) (.agg (a.pay cs))]
  | .bi op a b => [.int .i64 op, .ifc (a.tid cs) (.agg (a.pay cs)), .ifc (b.tid cs) (.agg (b.pay cs))]
def Xp.mth (cs : List Kol) : Xp → FuncId
  | .lit _ => 125
  | .col _ => 126
  | .un _ _ => 101
  | .bi _ _ _ => 106
theorem meth_x (cs : List Kol) (x : Xp) : Meth Tryd.prog (x.tid cs) "chirograph/eval.of" (x.mth cs) := by
  cases x with
  | lit v => intro v u w; show (callMethod (.iface 125 v) "chirograph/eval.of" #[u]).run Tryd.prog w = .ok (.enter 125 #[v, u]) w; kernel_rfl
  | col s => intro v u w; show (callMethod (.iface 127 v) "chirograph/eval.of" #[u]).run Tryd.prog w = .ok (.enter 126 #[v, u]) w; kernel_rfl
  | un op a => intro v u w; show (callMethod (.iface 121 v) "chirograph/eval.of" #[u]).run Tryd.prog w = .ok (.enter 101 #[v, u]) w; kernel_rfl
  | bi op a b => intro v u w; show (callMethod (.iface 123 v) "chirograph/eval.of" #[u]).run Tryd.prog w = .ok (.enter 106 #[v, u]) w; kernel_rfl
section
variable {E : Env} {n : Nat} {tm : List (Nat × AV)} {bx : List (Nat × Box)} {ops : Array Oper} {l : List Oper} {d : Tmp} {ty : TypeId} {pos : String} {after : Array Edge}
end
variable {g : Nat → Option (List PV)}
/-- What a thing says of a row. -/
def ThOk (g : Nat → Option (List PV)) (cs : List Kol) (row : List Vl) (x : Xp) : Prop := FnC (En Tryd.prog g) (x.mth cs) [.agg ((x.pay cs).map .pv), .pv (.lst 4 (row.map vlE))] (.tup [vlA (valP cs row x).1, .pv (.int .i64 (valP cs row x).2)]) []
/-- The same for any list of cells that is handed over. -/
def ThV (g : Nat → Option (List PV)) (rv : PV) (cs : List Kol) (row : List Vl) (x : Xp) : Prop := FnC (En Tryd.prog g) (x.mth cs) [.agg ((x.pay cs).map .pv), .pv rv] (.tup [vlA (valP cs row x).1, .pv (.int .i64 (valP cs row x).2)]) []
theorem thLit (rv : PV) (cs : List Kol) (row : List Vl) (v : Vl) : ThV g rv cs row (.lit v) := by
  have hE := EnOk g
  unfold ThV
  obtain ⟨vk, vn, vb, vs⟩ := v
  dsimp only [Xp.mth, Xp.pay, valP, vlA, List.map_cons, List.map_nil]
  exact FnC.go hE mixed Tryd.func125 []
theorem thCol {cs : List Kol} {row : List Vl} {s : ByteArray} {i : Nat} {v : Vl} (hi : idxC cs s = some i) (hv : row[i]? = some v) (hl : i ≤ 1000) : ThOk g cs row (.col s) := by
  have hE := EnOk g
  unfold ThOk
  have hat : (row.map vlE)[(i : Int).toNat]? = some (vlE v) := by rw [Int.toNat_natCast, List.getElem?_map, hv]; rfl
  have e : valP cs row (.col s) = (v, 0) := by simp only [valP, hi, List.getD_eq_getElem?_getD, hv, Option.getD_some]
  rw [e]
  have e2 : Xp.pay cs (.col s) = [.int .i64 (i : Int)] := by simp only [Xp.pay, hi, Option.getD_some]
  rw [e2]
  obtain ⟨vk, vn, vb, vs⟩ := v
  dsimp only [vlE] at hat
  dsimp only [Xp.mth, vlA, List.map_cons, List.map_nil]
  exact FnC.go hE mixed Tryd.func126 [(9, .el (PV.agg [PV.int IntKind.i64 vk, PV.int IntKind.i64 vn, PV.int IntKind.u64 vb, PV.str vs]))]
theorem thUn {rv : PV} {cs : List Kol} {row : List Vl} {op : Int} {a : Xp} (ha : ThV g rv cs row a) (h1 : (valP cs row a).2 = 0 → One op (valP cs row a).1) : ThV g rv cs row (.un op a) := by
  have hE := EnOk g
  have hm := meth_x cs a
  unfold ThV at ha ⊢
  dsimp only [Xp.mth, Xp.pay, List.map_cons, List.map_nil]
  simp only [valP]
  by_cases h0 : (valP cs row a).2 = 0
  ·
    rw [if_pos h0]
    have c2 := fnOne (g := g) (h1 h0)
    rw [h0] at ha
    generalize one1 op (valP cs row a).1 = r at *
    generalize (valP cs row a).1 = v at *
    obtain ⟨⟨rk, rn, rb, rs⟩, re⟩ := r
    obtain ⟨vk, vn, vb, vs⟩ := v
    dsimp only [vlA] at ha c2 ⊢
    exact FnC.go hE mixed Tryd.func101 [(12, .inv _ _ _ _ _ hm ha), (16, .b false), (22, .fn _ _ _ c2)]
  ·
    rw [if_neg h0]
    generalize (valP cs row a).2 = e at *
    generalize (valP cs row a).1 = v at *
    obtain ⟨vk, vn, vb, vs⟩ := v
    dsimp only [vlA] at ha ⊢
    exact FnC.go hE mixed Tryd.func101 [(12, .inv _ _ _ _ _ hm ha), (16, .b true)]
set_option maxHeartbeats 1000000 in
theorem thBi {rv : PV} {cs : List Kol} {row : List Vl} {op : Int} {a b : Xp} (ha : ThV g rv cs row a) (hb : ThV g rv cs row b)
    (h2 : (valP cs row a).2 = 0 → (valP cs row b).2 = 0 → FnC (En Tryd.prog g) 107 [.pv (.int .i64 op), vlA (valP cs row a).1, vlA (valP cs row b).1] (.tup [vlA (two2 op (valP cs row a).1 (valP cs row b).1).1, .pv (.int .i64 (two2 op (valP cs row a).1 (valP cs row b).1).2)]) []) : ThV g rv cs row (.bi op a b) := by
  have hE := EnOk g
  have hm := meth_x cs a
  have hn := meth_x cs b
  have ct0 := fnTruth (g := g) (t := 0) (by omega)
  have ct2 := fnTruth (g := g) (t := 2) (by omega)
  rw [show tru 0 = (⟨1, 0, 0, noS⟩ : Vl) from rfl] at ct0
  rw [show tru 2 = (⟨1, 1, 0, noS⟩ : Vl) from rfl] at ct2
  dsimp only [vlA] at ct0 ct2
  unfold ThV at ha hb ⊢
  dsimp only [Xp.mth, Xp.pay, List.map_cons, List.map_nil]
  simp only [valP]
  by_cases h0 : (valP cs row a).2 = 0
  case neg =>
    rw [if_neg h0]
    clear h2 hb
    generalize (valP cs row a).2 = e at *
    generalize (valP cs row a).1 = v at *
    obtain ⟨vk, vn, vb, vs⟩ := v
    dsimp only [vlA] at ha ⊢
    exact FnC.go hE mixed Tryd.func106 [(13, .inv _ _ _ _ _ hm ha), (17, .b true)]
  rw [if_pos h0]
  have h2 := h2 h0
  rw [h0] at ha
  clear h0
  generalize (valP cs row a).1 = v at *
  obtain ⟨vk, vn, vb, vs⟩ := v
  dsimp only [vlA] at ha
  by_cases o20 : op = 20
  ·
    subst o20
    by_cases hk : vk = 0
    case neg =>
      rw [if_pos (by unfold short; simp [hk])]
      dsimp only [vlA]
      exact FnC.go hE mixed Tryd.func106 [(13, .inv _ _ _ _ _ hm ha), (17, .b false), (23, .b true), (27, .b true)]
    rw [if_neg (by unfold short; simp [hk])]
    by_cases e0 : (valP cs row b).2 = 0
    ·
      rw [if_pos e0]
      have h2 := h2 e0
      rw [e0] at hb
      generalize two2 _ _ (valP cs row b).1 = r at *
      generalize (valP cs row b).1 = w at *
      obtain ⟨⟨rk, rn, rb, rs⟩, re⟩ := r
      obtain ⟨wk, wn, wb, ws⟩ := w
      dsimp only [vlA] at hb h2 ⊢
      exact FnC.go hE mixed Tryd.func106 [(13, .inv _ _ _ _ _ hm ha), (17, .b false), (23, .b true), (27, .b false), (33, .b false), (41, .b false), (52, .inv _ _ _ _ _ hn hb), (56, .b false), (63, .fn _ _ _ h2)]
    ·
      rw [if_neg e0]
      clear h2
      generalize (valP cs row b).2 = e at *
      generalize (valP cs row b).1 = w at *
      obtain ⟨wk, wn, wb, ws⟩ := w
      dsimp only [vlA] at hb ⊢
      exact FnC.go hE mixed Tryd.func106 [(13, .inv _ _ _ _ _ hm ha), (17, .b false), (23, .b true), (27, .b false), (33, .b false), (41, .b false), (52, .inv _ _ _ _ _ hn hb), (56, .b true)]
  by_cases o15 : op = 15
  ·
    subst o15
    by_cases hs : (⟨vk, vn, vb, vs⟩ : Vl) = ⟨1, 0, 0, noS⟩
    ·
      have hq : sameV ⟨vk, vn, vb, vs⟩ ⟨1, 0, 0, noS⟩ = true := sameV_iff.2 hs
      rw [if_pos (by unfold short; rw [show tru 0 = (⟨1, 0, 0, noS⟩ : Vl) from rfl, hq]; simp)]
      clear hs
      dsimp only [vlA]
      exact FnC.go hE mixed Tryd.func106 [(13, .inv _ _ _ _ _ hm ha), (17, .b false), (23, .b false), (33, .b true), (36, .fn _ _ _ ct0), (37, hEq _ { kd := vk, n := vn, b := vb, s := vs } { kd := 1, n := 0, b := 0, s := noS } true)]
    have hq : sameV ⟨vk, vn, vb, vs⟩ ⟨1, 0, 0, noS⟩ = false := sameV_ne hs
    rw [if_neg (by unfold short; rw [show tru 0 = (⟨1, 0, 0, noS⟩ : Vl) from rfl, hq]; simp)]
    by_cases e0 : (valP cs row b).2 = 0
    ·
      rw [if_pos e0]
      have h2 := h2 e0
      rw [e0] at hb
      generalize two2 _ _ (valP cs row b).1 = r at *
      generalize (valP cs row b).1 = w at *
      obtain ⟨⟨rk, rn, rb, rs⟩, re⟩ := r
      obtain ⟨wk, wn, wb, ws⟩ := w
      dsimp only [vlA] at hb h2 ⊢
      exact FnC.go hE mixed Tryd.func106 [(13, .inv _ _ _ _ _ hm ha), (17, .b false), (23, .b false), (33, .b true), (36, .fn _ _ _ ct0), (37, hEq _ { kd := vk, n := vn, b := vb, s := vs } { kd := 1, n := 0, b := 0, s := noS } false), (41, .b false), (52, .inv _ _ _ _ _ hn hb), (56, .b false), (63, .fn _ _ _ h2)]
    ·
      rw [if_neg e0]
      clear h2
      generalize (valP cs row b).2 = e at *
      generalize (valP cs row b).1 = w at *
      obtain ⟨wk, wn, wb, ws⟩ := w
      dsimp only [vlA] at hb ⊢
      exact FnC.go hE mixed Tryd.func106 [(13, .inv _ _ _ _ _ hm ha), (17, .b false), (23, .b false), (33, .b true), (36, .fn _ _ _ ct0), (37, hEq _ { kd := vk, n := vn, b := vb, s := vs } { kd := 1, n := 0, b := 0, s := noS } false), (41, .b false), (52, .inv _ _ _ _ _ hn hb), (56, .b true)]
  by_cases o16 : op = 16
  ·
    subst o16
    by_cases hs : (⟨vk, vn, vb, vs⟩ : Vl) = ⟨1, 1, 0, noS⟩
    ·
      have hq : sameV ⟨vk, vn, vb, vs⟩ ⟨1, 1, 0, noS⟩ = true := sameV_iff.2 hs
      rw [if_pos (by unfold short; rw [show tru 2 = (⟨1, 1, 0, noS⟩ : Vl) from rfl, hq]; simp)]
      clear hs
      dsimp only [vlA]
      exact FnC.go hE mixed Tryd.func106 [(13, .inv _ _ _ _ _ hm ha), (17, .b false), (23, .b false), (33, .b false), (41, .b true), (44, .fn _ _ _ ct2), (45, hEq _ { kd := vk, n := vn, b := vb, s := vs } { kd := 1, n := 1, b := 0, s := noS } true)]
    have hq : sameV ⟨vk, vn, vb, vs⟩ ⟨1, 1, 0, noS⟩ = false := sameV_ne hs
    rw [if_neg (by unfold short; rw [show tru 2 = (⟨1, 1, 0, noS⟩ : Vl) from rfl, hq]; simp)]
    by_cases e0 : (valP cs row b).2 = 0
    ·
      rw [if_pos e0]
      have h2 := h2 e0
      rw [e0] at hb
      generalize two2 _ _ (valP cs row b).1 = r at *
      generalize (valP cs row b).1 = w at *
      obtain ⟨⟨rk, rn, rb, rs⟩, re⟩ := r
      obtain ⟨wk, wn, wb, ws⟩ := w
      dsimp only [vlA] at hb h2 ⊢
      exact FnC.go hE mixed Tryd.func106 [(13, .inv _ _ _ _ _ hm ha), (17, .b false), (23, .b false), (33, .b false), (41, .b true), (44, .fn _ _ _ ct2), (45, hEq _ { kd := vk, n := vn, b := vb, s := vs } { kd := 1, n := 1, b := 0, s := noS } false), (52, .inv _ _ _ _ _ hn hb), (56, .b false), (63, .fn _ _ _ h2)]
    ·
      rw [if_neg e0]
      clear h2
      generalize (valP cs row b).2 = e at *
      generalize (valP cs row b).1 = w at *
      obtain ⟨wk, wn, wb, ws⟩ := w
      dsimp only [vlA] at hb ⊢
      exact FnC.go hE mixed Tryd.func106 [(13, .inv _ _ _ _ _ hm ha), (17, .b false), (23, .b false), (33, .b false), (41, .b true), (44, .fn _ _ _ ct2), (45, hEq _ { kd := vk, n := vn, b := vb, s := vs } { kd := 1, n := 1, b := 0, s := noS } false), (52, .inv _ _ _ _ _ hn hb), (56, .b true)]
  rw [if_neg (by unfold short; simp [o20, o15, o16])]
  by_cases e0 : (valP cs row b).2 = 0
  ·
    rw [if_pos e0]
    have h2 := h2 e0
    rw [e0] at hb
    generalize two2 _ _ (valP cs row b).1 = r at *
    generalize (valP cs row b).1 = w at *
    obtain ⟨⟨rk, rn, rb, rs⟩, re⟩ := r
    obtain ⟨wk, wn, wb, ws⟩ := w
    dsimp only [vlA] at hb h2 ⊢
    exact FnC.go hE mixed Tryd.func106 [(13, .inv _ _ _ _ _ hm ha), (17, .b false), (23, .b false), (33, .b false), (41, .b false), (52, .inv _ _ _ _ _ hn hb), (56, .b false), (63, .fn _ _ _ h2)]
  ·
    rw [if_neg e0]
    clear h2
    generalize (valP cs row b).2 = e at *
    generalize (valP cs row b).1 = w at *
    obtain ⟨wk, wn, wb, ws⟩ := w
    dsimp only [vlA] at hb ⊢
    exact FnC.go hE mixed Tryd.func106 [(13, .inv _ _ _ _ _ hm ha), (17, .b false), (23, .b false), (33, .b false), (41, .b false), (52, .inv _ _ _ _ _ hn hb), (56, .b true)]
theorem thOk (hV : VStr g) {cs : List Kol} (hl : cs.length ≤ 5) {row : List Vl} (hr : RowOk cs row) {k : Int} {x : Xp} (h : Ty cs k x) : ThOk g cs row x := by
  induction h with
  | lit hv hn hk => exact thLit _ cs row _
  | @col c hf hn =>
    obtain ⟨i, h1, h2⟩ := idxC_of hf
    obtain ⟨hlt, _⟩ := List.getElem?_eq_some_iff.1 h2
    obtain ⟨v, hv⟩ : ∃ v, row[i]? = some v := ⟨_, List.getElem?_eq_getElem (by rw [hr.len]; exact hlt)⟩
    exact thCol h1 hv (by omega)
  | @un op k ka a h ha ih =>
    refine thUn ih fun h0 => ?_
    rcases val_ok hr ha with ⟨_, h2, h3⟩ | ⟨_, h2⟩
    · exact (one_ok h h2 h3).1
    · omega
  | @bi op k ka a b h ha hb ia ib =>
    refine thBi ia ib fun h0 h1 => ?_
    rcases val_ok hr ha with ⟨_, h2, h3⟩ | ⟨_, h2⟩
    · rcases val_ok hr hb with ⟨_, i2, i3⟩ | ⟨_, i2⟩
      · exact fnTwo hV h h2 i2 h3 i3
      · omega
    · omega
end Go.Proofs.YtlcmnhocicehmaaDoor.Vm
end
section
section
namespace Go.Proofs.YtlcmnhocicehmaaDoor.Vm
open Go Go.RowKit Go.Lib
set_option linter.unusedVariables false
set_option linter.unusedSimpArgs false
attribute [local irreducible] Ops Dr Run
variable {g : Nat → Option (List PV)}
theorem fnKFits (hV : VStr g) {cs : List Kol} (hc : ColsOk cs) {row : List Vl} (hr : RowOk cs row) : FnC (En Tryd.prog g) 60 [.pv (.lst 4 (row.map vlE)), .pv (.lst 3 (cs.map kolE))] (.pv (.int .i64 0)) [] := by
  have hE := EnOk g
  have c1 := fnColumns (g := g) hc
  have hlen := hc.len
  obtain ⟨hrl, hrok⟩ := hr
  have l1 : ((row.map vlE).length : Int) = (cs.length : Int) := by rw [List.length_map, hrl]
  have l2 : ((cs.map kolE).length : Int) = (cs.length : Int) := by rw [List.length_map]
  refine FnC.at hE mixed Tryd.func60 [(10, .fn _ _ _ c1), (12, .b false), (15, .w ↑cs.length), (17, .w ↑cs.length), (18, .b false), (20, .w ↑cs.length)] ?_
  refine Run.inv (ι := Nat) (fun j => j ≤ cs.length)
    (fun j => ⟨58, [(1, .pv (.lst 3 (cs.map kolE))), (19, .pv (.lst 4 (row.map vlE))), (20, .pv (.int .i64 cs.length)), (21, .pv (.int .i64 j))], []⟩) (fun j => cs.length - j) 0 (by omega) SLe.to ?_
  rintro j hj ih
  by_cases hlt : j < cs.length
  ·
    obtain ⟨c, hc0⟩ : ∃ c, cs[j]? = some c := ⟨_, List.getElem?_eq_getElem hlt⟩
    obtain ⟨v, hv0⟩ : ∃ v, row[j]? = some v := ⟨_, List.getElem?_eq_getElem (by omega)⟩
    obtain ⟨hg, hk⟩ := hrok j c v hc0 hv0
    have hat2 := kol_at hc0
    have hat : (row.map vlE)[(j : Int).toNat]? = some (vlE v) := by rw [Int.toNat_natCast, List.getElem?_map, hv0]; rfl
    have cv := fnCheck hV hg
    clear hg
    obtain ⟨ck, ckd, cnl⟩ := c
    obtain ⟨vk, vn, vb, vs⟩ := v
    dsimp only [vlE] at hat
    dsimp only [vlA] at cv
    dsimp only [kolE] at hat2
    dsimp only at hk
    by_cases h0 : vk = 0
    ·
      by_cases hn : cnl = true
      case neg => exact absurd (hk.elim (fun h => h) (fun h => absurd h.2 hn)) (fun h => by have := (hc.ok _ (List.mem_of_getElem? hc0)).2; dsimp only at this; omega)
      subst hn
      refine Run.end hE mixed [(22, .b true), (24, .el (PV.agg [PV.int IntKind.i64 vk, PV.int IntKind.i64 vn, PV.int IntKind.u64 vb, PV.str vs])), (27, .fn _ _ _ cv), (29, .b false), (34, .b true), (38, .el (PV.agg [PV.str ck, PV.int IntKind.i64 ckd, PV.bool true])), (46, .b false)] ?_
      exact ih (j + 1) _ SLe.to (by omega) (by omega)
    ·
      have hkk : vk = ckd := hk.elim id (fun h => absurd h.1 h0)
      refine Run.end hE mixed [(22, .b true), (24, .el (PV.agg [PV.int IntKind.i64 vk, PV.int IntKind.i64 vn, PV.int IntKind.u64 vb, PV.str vs])), (27, .fn _ _ _ cv), (29, .b false), (34, .b false), (46, .b true), (52, .el (PV.agg [PV.str ck, PV.int IntKind.i64 ckd, PV.bool cnl])), (55, .b false)] ?_
      exact ih (j + 1) _ SLe.to (by omega) (by omega)
  obtain rfl : j = cs.length := by omega
  refine Run.end hE mixed [(22, .b false)] ?_
  exact End.go hE
theorem fnKRow (hV : VStr g) {cs : List Kol} (hc : ColsOk cs) {row : List Vl} (hr : RowOk cs row) : FnC (En Tryd.prog g) 39 [.pv (.lst 4 (row.map vlE)), .pv (.lst 3 (cs.map kolE))] (.pv (.int .i64 0)) [] := by
  have hE := EnOk g
  have c1 := fnKFits hV hc hr
  exact FnC.go hE mixed Tryd.func39 [(7, .fn _ _ _ c1)]
/-- What an expression is made ready as. -/
abbrev thE (cs : List Kol) (x : Xp) : PV := .ifc (x.tid cs) (.agg (x.pay cs))
def ToOk (g : Nat → Option (List PV)) (cs : List Kol) (x : Xp) : Prop := FnC (En Tryd.prog g) 40 [xA x, .pv (.lst 3 (cs.map kolE))] (.pv (thE cs x)) []
theorem toLit (cs : List Kol) (v : Vl) : ToOk g cs (.lit v) := by
  have hE := EnOk g
  unfold ToOk
  obtain ⟨vk, vn, vb, vs⟩ := v
  dsimp only [xA, Xp.op, Xp.v, Xp.nm, Xp.as, thE, Xp.tid, Xp.pay]
  exact FnC.go hE mixed Tryd.func40 [(11, .b false), (23, .b false), (42, .b true)]
theorem toUn {cs : List Kol} {op : Int} {a : Xp} (ha : ToOk g cs a) : ToOk g cs (.un op a) := by
  have hE := EnOk g
  unfold ToOk at ha ⊢
  have hat : ([xE a] : List PV)[(0 : Int).toNat]? = some (xE a) := rfl
  dsimp only [xA, Xp.op, Xp.v, Xp.nm, Xp.as, thE, Xp.tid, Xp.pay] at ha ⊢
  exact FnC.go hE mixed Tryd.func40 [(11, .b true), (19, .fn _ _ _ ha)]
theorem toBi {cs : List Kol} {op : Int} {a b : Xp} (ha : ToOk g cs a) (hb : ToOk g cs b) : ToOk g cs (.bi op a b) := by
  have hE := EnOk g
  unfold ToOk at ha hb ⊢
  have hat0 : ([xE a, xE b] : List PV)[(0 : Int).toNat]? = some (xE a) := rfl
  have hat1 : ([xE a, xE b] : List PV)[(1 : Int).toNat]? = some (xE b) := rfl
  dsimp only [xA, Xp.op, Xp.v, Xp.nm, Xp.as, thE, Xp.tid, Xp.pay] at ha hb ⊢
  exact FnC.go hE mixed Tryd.func40 [(23, .b true), (31, .fn _ _ _ ha), (37, .fn _ _ _ hb)]
theorem toCol {cs : List Kol} (hl : cs.length ≤ 5) {s : ByteArray} {i : Nat} (hi : idxC cs s = some i) : ToOk g cs (.col s) := by
  have hE := EnOk g
  unfold ToOk
  have hlm : ((cs.map kolE).length : Int) = cs.length := by simp
  obtain ⟨hil, hi1, hi2⟩ := List.findIdx?_eq_some_iff_getElem.1 hi
  have e2 : Xp.pay cs (.col s) = [.int .i64 (i : Int)] := by simp only [Xp.pay, hi, Option.getD_some]
  dsimp only [thE]
  rw [e2]
  clear e2 hi
  dsimp only [xA, Xp.op, Xp.v, Xp.nm, Xp.as, Xp.tid]
  refine FnC.at hE mixed Tryd.func40 [(11, .b false), (23, .b false), (42, .b false), (48, .w ↑cs.length)] ?_
  refine Run.inv (ι := Nat) (fun j => j ≤ i)
    (fun j => ⟨65, [(2, .ptr 2 0), (47, .pv (.lst 3 (cs.map kolE))), (48, .pv (.int .i64 cs.length)), (49, .pv (.int .i64 j))], [(2, .var [.pv (.int .i64 2), .pv (.int .i64 0), .pv (.int .i64 0), .pv (.int .u64 0), .pv (.str noS), .pv (.str s), .pv (.lst 7 [])])]⟩) (fun j => i - j) 0 (by omega) SLe.to ?_
  rintro j hj ih
  have hlt : j < cs.length := by omega
  obtain ⟨d, hd⟩ : ∃ d, cs[j]? = some d := ⟨_, List.getElem?_eq_getElem hlt⟩
  have hd2 : cs[j] = d := (List.getElem?_eq_some_iff.1 hd).2
  have hat := kol_at hd
  by_cases hq : j = i
  ·
    subst hq
    have hq' : (d.nm.toList == s.toList) = true := by rw [← hd2]; exact hi1
    obtain ⟨dk, dkd, dnl⟩ := d
    dsimp only [kolE] at hat
    dsimp only at hq'
    refine Run.end hE mixed [(50, .b true), (52, .el (PV.agg [PV.str dk, PV.int IntKind.i64 dkd, PV.bool dnl])), (58, .b true)] ?_
    exact End.go hE
  ·
    have hq' : (d.nm.toList == s.toList) = false := by
      have := hi2 j (by omega)
      rw [hd2] at this
      simpa using this
    obtain ⟨dk, dkd, dnl⟩ := d
    dsimp only [kolE] at hat
    dsimp only at hq'
    refine Run.end hE mixed [(50, .b true), (52, .el (PV.agg [PV.str dk, PV.int IntKind.i64 dkd, PV.bool dnl])), (58, .b false)] ?_
    exact ih (j + 1) _ SLe.to (by omega) (by omega)
theorem toOk {cs : List Kol} (hl : cs.length ≤ 5) {k : Int} {x : Xp} (h : Ty cs k x) : ToOk g cs x := by
  induction h with
  | lit hv hn hk => exact toLit cs _
  | @col c hf hn =>
    obtain ⟨i, h1, _⟩ := idxC_of hf
    exact toCol hl h1
  | un h ha ih => exact toUn ih
  | bi h ha hb ia ib => exact toBi ia ib
theorem fnEvalG (hV : VStr g) {cs : List Kol} (hc : ColsOk cs) {row : List Vl} (hr : RowOk cs row) {x : Xp} (hw : x.wf) (hd : x.dp ≤ 7) (hs : x.sz ≤ 40) (c3 : ToOk g cs x) (c4 : ThOk g cs row x) (hv : (valP cs row x).2 = 0 ∨ (valP cs row x).1 = v0) : FnC (En Tryd.prog g) 16 [xA x, .pv (.lst 3 (cs.map kolE)), .pv (.lst 4 (row.map vlE))] (.tup [vlA (valP cs row x).1, .pv (.int .i64 (valP cs row x).2)]) [] := by
  have hE := EnOk g
  have c1 := fnXCheck hV hw hd hs
  have c2 := fnKRow hV hc hr
  have hm := meth_x cs x
  unfold ToOk at c3
  unfold ThOk at c4
  clear hw
  generalize valP cs row x = q at *
  obtain ⟨⟨vk, vn, vb, vs⟩, ve⟩ := q
  dsimp only [vlA] at c4 ⊢
  by_cases h0 : ve = 0
  ·
    subst h0
    exact FnC.go hE mixed Tryd.func16 [(13, .fn _ _ _ c1), (15, .b false), (20, .fn _ _ _ c2), (22, .b false), (28, .fn _ _ _ c3), (30, .inv _ _ _ _ _ hm c4), (34, .b false)]
  ·
    have hv0 : (⟨vk, vn, vb, vs⟩ : Vl) = v0 := hv.resolve_left h0
    cases hv0
    exact FnC.go hE mixed Tryd.func16 [(13, .fn _ _ _ c1), (15, .b false), (20, .fn _ _ _ c2), (22, .b false), (28, .fn _ _ _ c3), (30, .inv _ _ _ _ _ hm c4), (34, .b true)]
theorem fnEval (hV : VStr g) {cs : List Kol} (hc : ColsOk cs) {row : List Vl} (hr : RowOk cs row) {k : Int} {x : Xp} (h : Ty cs k x) (hd : x.dp ≤ 7) (hs : x.sz ≤ 40) : FnC (En Tryd.prog g) 16 [xA x, .pv (.lst 3 (cs.map kolE)), .pv (.lst 4 (row.map vlE))] (.tup [vlA (valP cs row x).1, .pv (.int .i64 (valP cs row x).2)]) [] :=
  fnEvalG hV hc hr h.wf hd hs (toOk hc.len h) (thOk hV hc.len hr h) ((val_ok hr h).imp (fun h => h.1) (fun h => h.1))
theorem fnNumX {n : Int} : FnC (En Tryd.prog g) 32 [.pv (.int .i64 n)] (xA (.lit (vN n))) [] := by
  have hE := EnOk g
  exact FnC.go hE mixed Tryd.func32 []
end Go.Proofs.YtlcmnhocicehmaaDoor.Vm
end
section
section
section
namespace Go.Proofs.YtlcmnhocicehmaaDoor.Vm
open Go Go.RowKit Go.Lib
set_option linter.unusedVariables false
set_option linter.unusedSimpArgs false
attribute [local irreducible] Ops Dr Run
abbrev kA : Kol := ⟨nmOf 97, 2, false⟩
abbrev kB : Kol := ⟨nmOf 98, 2, false⟩
theorem nmAB : ((nmOf 97).toList == (nmOf 98).toList) = false := nm_ap 97 98 (by omega) (by omega) (by omega)
theorem colsAB_ok : ColsOk [kA, kB] := by
  refine ⟨by simp, fun c hc => ?_, ?_⟩
  · rcases List.mem_cons.1 hc with rfl | hc
    · exact ⟨nmOf_ok (by omega) (by omega), by decide, by decide⟩
    · rw [List.mem_singleton.1 hc]; exact ⟨nmOf_ok (by omega) (by omega), by decide, by decide⟩
  · refine .cons (fun d hd => ?_) (by simp)
    rw [List.mem_singleton.1 hd]
    exact nmAB
theorem findAB_a : findC [kA, kB] (nmOf 97) = some kA := findC_mem colsAB_ok.ap kA (by simp)
theorem idxAB_a : idxC [kA, kB] (nmOf 97) = some 0 := by
  unfold idxC
  rw [List.findIdx?_cons, if_pos (beq_self_eq_true _)]
theorem rowAB_ok {a b : Int} (ha : inR a) (hb : inR b) : RowOk [kA, kB] [vN a, vN b] := ⟨rfl, fun i c v hc hv => by
  match i with
  | 0 => simp at hc hv; subst hc; subst hv; exact ⟨.int a ha, .inl rfl⟩
  | 1 => simp at hc hv; subst hc; subst hv; exact ⟨.int b hb, .inl rfl⟩
  | i + 2 => simp at hc⟩
theorem tyA : Ty [kA, kB] 2 (.col (nmOf 97)) := Ty.col (c := kA) findAB_a (nmOf_ok (by omega) (by omega))
theorem valA (a b : Int) : valP [kA, kB] [vN a, vN b] (.col (nmOf 97)) = (vN a, 0) := by simp only [valP, idxAB_a]; rfl
theorem short_lo {o : Int} (h14 : o ≤ 14) (v : Vl) : short o v = false := by
  have h1 : decide (o = 20) = false := decide_eq_false (by omega)
  have h2 : decide (o = 15) = false := decide_eq_false (by omega)
  have h3 : decide (o = 16) = false := decide_eq_false (by omega)
  unfold short
  rw [h1, h2, h3]
  rfl
variable {g : Nat → Option (List PV)}
theorem fnInts {a b : Int} : FnC (En Tryd.prog g) 14 [.pv (.int .i64 a), .pv (.int .i64 b)] (.tup [.pv (.lst 3 ([kA, kB].map kolE)), .pv (.lst 4 ([vN a, vN b].map vlE))]) [] := by
  have hE := EnOk g
  exact FnC.go hE mixed Tryd.func14 []
theorem fnColA : FnC (En Tryd.prog g) 35 [] (xA (.col (nmOf 97))) [] := by
  have hE := EnOk g
  exact FnC.go hE mixed Tryd.func35 []
end Go.Proofs.YtlcmnhocicehmaaDoor.Vm
end
section
namespace Go.Proofs.YtlcmnhocicehmaaDoor.Vm
open Go Go.RowKit Go.Lib
set_option linter.unusedVariables false
set_option linter.unusedSimpArgs false
def bndL (r : Rw) : Xp := if r.b % 3 = 0 then .un 3 (.lit (vN (r.a % 30))) else .lit (vN (r.a % 30))
def bOp (k : Int) : Int := if k % 5 = 0 then 9 else 10 + k % 5
/-- A comparison of the column a with a number. -/
def bndX (r : Rw) : Xp := if r.b % 2 = 0 then .bi (bOp r.kd) (.col (nmOf 97)) (bndL r) else .bi (bOp r.kd) (bndL r) (.col (nmOf 97))
theorem bOp_in (k : Int) : bOp k = 9 ∨ (11 ≤ bOp k ∧ bOp k ≤ 14) := by
  unfold bOp
  split <;> omega
theorem bndL_lit (r : Rw) : ∃ n : Int, litP (bndL r) = some n ∧ -30 ≤ n ∧ n ≤ 30 := by
  have h1 := Int.emod_nonneg r.a (b := 30) (by omega)
  have h2 := Int.emod_lt_of_pos r.a (b := 30) (by omega)
  unfold bndL
  split
  · exact ⟨-(r.a % 30), by simp [litP, vN], by omega, by omega⟩
  · exact ⟨r.a % 30, by simp [litP, vN], by omega, by omega⟩
theorem bndL_ty (cs : List Kol) (r : Rw) : Ty cs 2 (bndL r) := by
  have h1 := Int.emod_nonneg r.a (b := 30) (by omega)
  have h2 := Int.emod_lt_of_pos r.a (b := 30) (by omega)
  have hl : Ty cs 2 (.lit (vN (r.a % 30))) := .lit (.int _ (by omega)) h1 (.inl rfl)
  unfold bndL
  split
  · exact .un (.inl ⟨rfl, rfl, rfl⟩) hl
  · exact hl
theorem bndL_sz (r : Rw) : (bndL r).dp ≤ 2 ∧ (bndL r).sz ≤ 2 := by
  unfold bndL
  split <;> simp [Xp.dp, Xp.sz]
/-- What is said of two numbers. -/
theorem cmp_int {op : Int} (h : op = 9 ∨ (11 ≤ op ∧ op ≤ 14)) {n : Int} (hn : -30 ≤ n ∧ n ≤ 30) {k : Int} (hk : inR k) : ∃ t : Int, (t = 0 ∨ t = 2) ∧ cmpB op (vN k) (vN n) = t ∧ (t = 2 ↔ (bndP op n).1 ≤ k ∧ k ≤ (bndP op n).2) := by
  unfold inR at hk
  have e1 := ordV_int k n
  have e2 := ordV_int n k
  have hz : ¬ ((vN k).kd = 0 ∨ (vN n).kd = 0) := by simp [vN]
  have hz2 : ¬ ((vN n).kd = 0 ∨ (vN k).kd = 0) := by simp [vN]
  refine ⟨_, ?_, rfl, ?_⟩
  · unfold cmpB cmpT
    rw [e1, e2, if_neg hz, if_neg hz2, if_neg hz]
    rcases h with rfl | h
    · simp only [decide_eq_true_eq]
      repeat' split
      all_goals omega
    · simp only [decide_eq_true_eq]
      repeat' split
      all_goals omega
  · unfold cmpB cmpT bndP
    rw [e1, e2, if_neg hz, if_neg hz2, if_neg hz]
    simp only [decide_eq_true_eq, allR]
    rcases h with rfl | h
    · simp only [if_true]
      repeat' split
      all_goals (first | omega | (dsimp only; omega))
    · have ho : op = 11 ∨ op = 12 ∨ op = 13 ∨ op = 14 := by omega
      rcases ho with rfl | rfl | rfl | rfl
      all_goals (simp only [reduceIte, Int.reduceEq, show ¬ n = -9223372036854775808 by omega, show ¬ n = 9223372036854775807 by omega, if_false])
      all_goals (repeat' split)
      all_goals (first | omega | (dsimp only; omega))
theorem val_cmp {cs : List Kol} {row : List Vl} {o : Int} (h14 : o ≤ 14) {x y : Xp} {v w : Vl} (hx : valP cs row x = (v, 0)) (hy : valP cs row y = (w, 0)) : valP cs row (.bi o x y) = two2 o v w := by
  simp only [valP, hx, hy, short_lo h14, if_true, Bool.false_eq_true, if_false]
/-- What a comparison says of a row of numbers, and which numbers it leaves. -/
theorem bnd_says (r : Rw) {k : Int} (hk : inR k) (m : Int) : ∃ t : Int, (t = 0 ∨ t = 2) ∧ valP [kA, kB] [vN k, vN m] (bndX r) = (tru t, 0) ∧ (t = 2 ↔ (ofR (nmOf 97) (bndX r)).1 ≤ k ∧ k ≤ (ofR (nmOf 97) (bndX r)).2) := by
  obtain ⟨n, hl, hn⟩ := bndL_lit r
  have ho := bOp_in r.kd
  have hw := (bndL_ty [kA, kB] r).wf
  have hv := (lit_val (cs := [kA, kB]) (row := [vN k, vN m]) hl hw).1
  have hc : isC (nmOf 97) (.col (nmOf 97)) = true := by simp [isC]
  have hnc : litP (.col (nmOf 97)) = none := rfl
  unfold bndX
  generalize bOp r.kd = op at *
  generalize bndL r = b at *
  have htw : ∀ v w, two2 op v w = (tru (cmpB op v w), 0) := fun v w => by
    unfold two2
    rw [if_neg (by omega), if_neg (by omega), if_neg (by omega), if_neg (by omega), if_neg (by omega)]
  split
  · obtain ⟨t, h1, h2, h3⟩ := cmp_int ho hn hk
    refine ⟨t, h1, ?_, ?_⟩
    · rw [val_cmp (by omega) (valA k m) hv, htw, h2]
    · rw [h3]
      have : ofR (nmOf 97) (.bi op (.col (nmOf 97)) b) = bndP op n := by
        simp only [ofR]
        rw [if_neg (by omega), if_neg (by omega)]
        unfold cmpR
        rw [hl, hc]
      rw [this]
  · have ho2 : turnO op = 9 ∨ (11 ≤ turnO op ∧ turnO op ≤ 14) := by
      unfold turnO
      repeat' split
      all_goals omega
    obtain ⟨t, h1, h2, h3⟩ := cmp_int ho2 hn hk
    refine ⟨t, h1, ?_, ?_⟩
    · have : cmpB op (vN n) (vN k) = t := by
        rw [← h2]
        have e1 := ordV_int k n
        have e2 := ordV_int n k
        unfold turnO cmpB
        rcases ho with rfl | ho
        · simp only [reduceIte, Int.reduceEq]
          unfold cmpT
          rw [e1, e2]
          have hz : ¬ ((vN k).kd = 0 ∨ (vN n).kd = 0) := by simp [vN]
          have hz2 : ¬ ((vN n).kd = 0 ∨ (vN k).kd = 0) := by simp [vN]
          rw [if_neg hz, if_neg hz2]
          simp only [decide_eq_true_eq]
          repeat' split
          all_goals omega
        · have ho : op = 11 ∨ op = 12 ∨ op = 13 ∨ op = 14 := by omega
          rcases ho with rfl | rfl | rfl | rfl <;> simp only [reduceIte, Int.reduceEq]
      rw [val_cmp (by omega) hv (valA k m), htw, this]
    · rw [h3]
      have : ofR (nmOf 97) (.bi op b (.col (nmOf 97))) = bndP (turnO op) n := by
        simp only [ofR]
        rw [if_neg (by omega), if_neg (by omega)]
        unfold cmpR
        rw [hl, hc, hnc]
      rw [this]
theorem bnd_ty (r : Rw) : Ty [kA, kB] 1 (bndX r) := by
  have ho := bOp_in r.kd
  have hb := bndL_ty [kA, kB] r
  have hB : BiTy (bOp r.kd) 1 2 := by unfold BiTy; omega
  unfold bndX
  split
  · exact .bi hB tyA hb
  · exact .bi hB hb tyA
theorem bnd_sz (r : Rw) : (bndX r).dp ≤ 3 ∧ (bndX r).sz ≤ 5 := by
  obtain ⟨h1, h2⟩ := bndL_sz r
  unfold bndX
  split <;> simp only [Xp.dp, Xp.sz] <;> omega
/-- So many comparisons, all of them asked for. -/
inductive TightX : Nat → Xp → Prop
  | one (r : Rw) : TightX 1 (bndX r)
  | and {j : Nat} {x : Xp} (r : Rw) (h : TightX j x) : TightX (j + 1) (.bi 15 x (bndX r))
theorem TightX.ty {j : Nat} {x : Xp} (h : TightX j x) : Ty [kA, kB] 1 x ∧ x.dp ≤ j + 2 ∧ x.sz ≤ 6 * j ∧ 1 ≤ j := by
  induction h with
  | one r => exact ⟨bnd_ty r, by have := (bnd_sz r).1; omega, by have := (bnd_sz r).2; omega, by omega⟩
  | and r h ih =>
    obtain ⟨h1, h2⟩ := bnd_sz r
    obtain ⟨i1, i2, i3, i4⟩ := ih
    refine ⟨.bi (.inr (.inl ⟨by omega, by omega, rfl, rfl⟩)) i1 (bnd_ty r), ?_, ?_, by omega⟩ <;> simp only [Xp.dp, Xp.sz] <;> omega
theorem TightX.says {j : Nat} {x : Xp} (h : TightX j x) {k : Int} (hk : inR k) (m : Int) : ∃ t : Int, (t = 0 ∨ t = 2) ∧ valP [kA, kB] [vN k, vN m] x = (tru t, 0) ∧ (t = 2 ↔ (ofR (nmOf 97) x).1 ≤ k ∧ k ≤ (ofR (nmOf 97) x).2) := by
  induction h with
  | one r => exact bnd_says r hk m
  | @and j x r h ih =>
    obtain ⟨t, h1, h2, h3⟩ := ih
    obtain ⟨u, g1, g2, g3⟩ := bnd_says r hk m
    have hR : ofR (nmOf 97) (.bi 15 x (bndX r)) = (if (ofR (nmOf 97) (bndX r)).1 > (ofR (nmOf 97) x).1 then (ofR (nmOf 97) (bndX r)).1 else (ofR (nmOf 97) x).1, if (ofR (nmOf 97) (bndX r)).2 < (ofR (nmOf 97) x).2 then (ofR (nmOf 97) (bndX r)).2 else (ofR (nmOf 97) x).2) := by
      simp only [ofR, if_true]
    rw [hR]
    rcases h1 with rfl | rfl
    · refine ⟨0, .inl rfl, ?_, ?_⟩
      · simp only [valP, h2, if_true]
        rw [if_pos (by unfold short; rw [sameV_iff.2 (rfl : tru 0 = tru 0)]; simp)]
      · dsimp only
        constructor
        · intro h; omega
        · intro h
          have : (ofR (nmOf 97) x).1 ≤ k ∧ k ≤ (ofR (nmOf 97) x).2 := by
            constructor
            · have := h.1; split at this <;> omega
            · have := h.2; split at this <;> omega
          exact absurd (h3.2 this) (by omega)
    · refine ⟨u, g1, ?_, ?_⟩
      · simp only [valP, h2, g2, if_true]
        rw [if_neg (by decide)]
        rcases g1 with rfl | rfl <;> rfl
      · rw [g3]
        dsimp only
        have h4 := h3.1 rfl
        constructor
        · intro h
          constructor <;> split <;> omega
        · intro h
          constructor
          · have := h.1; split at this <;> omega
          · have := h.2; split at this <;> omega
end Go.Proofs.YtlcmnhocicehmaaDoor.Vm
end
end
section
namespace Go.Proofs.YtlcmnhocicehmaaDoor.Vm
open Go Go.RowKit Go.Lib
set_option linter.unusedVariables false
set_option linter.unusedSimpArgs false
attribute [local irreducible] Ops Dr Run
section
variable {g : Nat → Option (List PV)}
theorem fnBound (r : Rw) : FnC (En Tryd.prog g) 10 [.agg [.pv (.int .i64 r.kd), .pv (.int .i64 r.a), .pv (.int .i64 r.b), .pv (.str r.s)]] (xA (bndX r)) [] := by
  have hE := EnOk g
  obtain ⟨rk, ra, rb, rs⟩ := r
  have p1 := fnPick (g := g) (a := ra) (m := 30) (by omega) (by omega)
  have p2 := fnPick (g := g) (a := rb) (m := 3) (by omega) (by omega)
  have p3 := fnPick (g := g) (a := rk) (m := 5) (by omega) (by omega)
  have p4 := fnPick (g := g) (a := rb) (m := 2) (by omega) (by omega)
  have n1 := fnNumX (g := g) (n := ra % 30)
  have ca := fnColA (g := g)
  have h1 := Int.emod_nonneg rk (b := 5) (by omega)
  have h2 := Int.emod_lt_of_pos rk (b := 5) (by omega)
  have h3 : rk % 5 < 5 := h2
  obtain ⟨q, hq, hat⟩ : ∃ q, bOp rk = 9 + q ∧ ([PV.int .i64 0, .int .i64 2, .int .i64 3, .int .i64 4, .int .i64 5] : List PV)[(rk % 5).toNat]? = some (.int .i64 q) := by
    unfold bOp
    have : rk % 5 = 0 ∨ rk % 5 = 1 ∨ rk % 5 = 2 ∨ rk % 5 = 3 ∨ rk % 5 = 4 := by omega
    rcases this with h | h | h | h | h
    · exact ⟨0, by rw [h]; rfl, by rw [h]; rfl⟩
    · exact ⟨2, by rw [h]; rfl, by rw [h]; rfl⟩
    · exact ⟨3, by rw [h]; rfl, by rw [h]; rfl⟩
    · exact ⟨4, by rw [h]; rfl, by rw [h]; rfl⟩
    · exact ⟨5, by rw [h]; rfl, by rw [h]; rfl⟩
  have hqb : 0 ≤ q ∧ q ≤ 5 := by have := bOp_in rk; omega
  unfold bndX bndL
  dsimp only
  rw [hq]
  have o1 := fnOp1 (g := g) (op := 3) (.lit (vN (ra % 30)))
  by_cases b3 : rb % 3 = 0
  ·
    rw [if_pos b3]
    by_cases b2 : rb % 2 = 0
    ·
      rw [if_pos b2]
      have o2 := fnOp2 (g := g) (op := 9 + q) (.col (nmOf 97)) (.un 3 (.lit (vN (ra % 30))))
      generalize Xp.bi (9 + q) (.col (nmOf 97)) (.un 3 (.lit (vN (ra % 30)))) = z at *
      generalize Xp.un 3 (.lit (vN (ra % 30))) = y at *
      generalize Xp.lit (vN (ra % 30)) = x at *
      generalize Xp.col (nmOf 97) = c at *
      generalize ra % 30 = n at *
      generalize rk % 5 = i at *
      exact FnC.go hE mixed Tryd.func10 [(8, .fn _ _ _ p1), (10, .fn _ _ _ n1), (13, .fn _ _ _ p2), (14, .b true), (16, .fn _ _ _ o1), (20, .fn _ _ _ p3), (21, .el (PV.int IntKind.i64 q)), (26, .fn _ _ _ p4), (27, .b true), (29, .fn _ _ _ ca), (31, .fn _ _ _ o2)]
    ·
      rw [if_neg b2]
      have o2 := fnOp2 (g := g) (op := 9 + q) (.un 3 (.lit (vN (ra % 30)))) (.col (nmOf 97))
      generalize Xp.bi (9 + q) (.un 3 (.lit (vN (ra % 30)))) (.col (nmOf 97)) = z at *
      generalize Xp.un 3 (.lit (vN (ra % 30))) = y at *
      generalize Xp.lit (vN (ra % 30)) = x at *
      generalize Xp.col (nmOf 97) = c at *
      generalize ra % 30 = n at *
      generalize rk % 5 = i at *
      exact FnC.go hE mixed Tryd.func10 [(8, .fn _ _ _ p1), (10, .fn _ _ _ n1), (13, .fn _ _ _ p2), (14, .b true), (16, .fn _ _ _ o1), (20, .fn _ _ _ p3), (21, .el (PV.int IntKind.i64 q)), (26, .fn _ _ _ p4), (27, .b false), (34, .fn _ _ _ ca), (35, .fn _ _ _ o2)]
  ·
    rw [if_neg b3]
    clear o1
    by_cases b2 : rb % 2 = 0
    ·
      rw [if_pos b2]
      have o2 := fnOp2 (g := g) (op := 9 + q) (.col (nmOf 97)) (.lit (vN (ra % 30)))
      generalize Xp.bi (9 + q) (.col (nmOf 97)) (.lit (vN (ra % 30))) = z at *
      generalize Xp.lit (vN (ra % 30)) = x at *
      generalize Xp.col (nmOf 97) = c at *
      generalize ra % 30 = n at *
      generalize rk % 5 = i at *
      exact FnC.go hE mixed Tryd.func10 [(8, .fn _ _ _ p1), (10, .fn _ _ _ n1), (13, .fn _ _ _ p2), (14, .b false), (20, .fn _ _ _ p3), (21, .el (PV.int IntKind.i64 q)), (26, .fn _ _ _ p4), (27, .b true), (29, .fn _ _ _ ca), (31, .fn _ _ _ o2)]
    ·
      rw [if_neg b2]
      have o2 := fnOp2 (g := g) (op := 9 + q) (.lit (vN (ra % 30))) (.col (nmOf 97))
      generalize Xp.bi (9 + q) (.lit (vN (ra % 30))) (.col (nmOf 97)) = z at *
      generalize Xp.lit (vN (ra % 30)) = x at *
      generalize Xp.col (nmOf 97) = c at *
      generalize ra % 30 = n at *
      generalize rk % 5 = i at *
      exact FnC.go hE mixed Tryd.func10 [(8, .fn _ _ _ p1), (10, .fn _ _ _ n1), (13, .fn _ _ _ p2), (14, .b false), (20, .fn _ _ _ p3), (21, .el (PV.int IntKind.i64 q)), (26, .fn _ _ _ p4), (27, .b false), (34, .fn _ _ _ ca), (35, .fn _ _ _ o2)]
end
set_option maxHeartbeats 4000000 in
theorem fnSpanTight {rs : List Rw} {n : Int} (hl : (rs.length : Int) ≤ 9223372036854775807) : FnC (En Tryd.prog gT) 3 [.pv (.lst 4 (rs.map rawE)), .pv (.int .i64 n)] (.pv (.bool true)) [] := by
  have hE := EnOk gT
  have cs := fnSome (g := gT) (rs := rs) (m := 5) (by omega) hl
  rw [show (5 : Int).toNat = 5 from rfl] at cs
  have pk := fnPick (g := gT) (a := n) (m := 80) (by omega) (by omega)
  have hk1 := Int.emod_nonneg n (b := 80) (by omega)
  have hk2 := Int.emod_lt_of_pos n (b := 80) (by omega)
  have c0 := fnBound (g := gT) ⟨0, 0, 0, noS⟩
  have hT0 : TightX 1 (bndX ⟨0, 0, 0, noS⟩) := .one _
  have hR : (rs.take 5).length ≤ 5 := by rw [List.length_take]; omega
  generalize rs.take 5 = R at *
  generalize bndX ⟨0, 0, 0, noS⟩ = x0 at *
  generalize n % 80 = k at *
  have hlm : ((R.map rawE).length : Int) = R.length := by simp
  refine FnC.at hE mixed Tryd.func3 [(16, .fn _ _ _ c0), (18, .fn _ _ _ cs), (19, .w ↑R.length)] ?_
  refine Run.inv (ι := Nat × Xp) (fun q => q.1 ≤ R.length ∧ (q.1 = 0 → q.2 = x0) ∧ TightX (max q.1 1) q.2)
    (fun q => ⟨93, [(1, .pv (.int .i64 n)), (5, .ptr 5 0), (18, .pv (.lst 4 (R.map rawE))), (19, .pv (.int .i64 R.length)), (20, .pv (.int .i64 q.1))], [(5, .var [.pv (.int .i64 q.2.op), .pv (.int .i64 q.2.v.kd), .pv (.int .i64 q.2.v.n), .pv (.int .u64 q.2.v.b), .pv (.str q.2.v.s), .pv (.str q.2.nm), .pv (.lst 7 q.2.as)])]⟩) (fun q => R.length - q.1) (0, x0) ⟨by omega, fun _ => rfl, hT0⟩ SLe.to ?_
  rintro ⟨j, x⟩ ⟨hj, hz, hx⟩ ih
  dsimp only at hj hz hx ih ⊢
  clear c0 cs hT0
  by_cases hlt : j < R.length
  ·
    clear pk
    obtain ⟨r, hr⟩ : ∃ r, R[j]? = some r := ⟨_, List.getElem?_eq_getElem hlt⟩
    have hat : (R.map rawE)[(j : Int).toNat]? = some (rawE r) := by rw [Int.toNat_natCast, List.getElem?_map, hr]; rfl
    have cb := fnBound (g := gT) r
    have o2 := fnOp2 (g := gT) (op := 15) x (bndX r)
    by_cases h0 : j = 0
    ·
      have hy : TightX (max (j + 1) 1) (bndX r) := by subst h0; exact .one r
      clear o2 hx
      generalize bndX r = y at *
      obtain ⟨rk, ra, rb, rt⟩ := r
      dsimp only [rawE] at hat cb
      refine Run.end hE mixed [(21, .b true), (23, .el (PV.agg [PV.int IntKind.i64 rk, PV.int IntKind.i64 ra, PV.int IntKind.i64 rb, PV.str rt])), (26, .b true), (28, .fn _ _ _ cb)] ?_
      exact ih (j + 1, y) _ SLe.to ⟨by dsimp only; omega, fun h => by dsimp only at h; omega, hy⟩ (by dsimp only; omega)
    ·
      have hy : TightX (max (j + 1) 1) (.bi 15 x (bndX r)) := by
        rw [show max (j + 1) 1 = max j 1 + 1 by omega]
        exact .and r hx
      clear hx hz
      generalize Xp.bi 15 x (bndX r) = y at *
      generalize bndX r = z at *
      obtain ⟨rk, ra, rb, rt⟩ := r
      dsimp only [rawE] at hat cb
      refine Run.end hE mixed [(21, .b true), (23, .el (PV.agg [PV.int IntKind.i64 rk, PV.int IntKind.i64 ra, PV.int IntKind.i64 rb, PV.str rt])), (26, .b false), (31, .fn _ _ _ cb), (32, .fn _ _ _ o2)] ?_
      exact ih (j + 1, y) _ SLe.to ⟨by dsimp only; omega, fun h => by dsimp only at h; omega, hy⟩ (by dsimp only; omega)
  ·
    clear hz ih
    obtain ⟨hty, hdp, hsz, hj1⟩ := hx.ty
    obtain ⟨t, ht, hval, hin⟩ := hx.says (k := k - 40) (by unfold inR; omega) 0
    have cI := fnInts (g := gT) (a := k - 40) (b := 0)
    have cO := fnSpanOf (g := gT) vstr (nmOf 97) hty.wf (by omega) (by omega)
    have cE := fnEval (g := gT) vstr colsAB_ok (rowAB_ok (a := k - 40) (b := 0) (by unfold inR; omega) (by unfold inR; omega)) hty (by omega) (by omega)
    rw [hval] at cE
    unfold spanR at cO
    generalize ofR (nmOf 97) x = rg at *
    obtain ⟨lo, hi⟩ := rg
    clear hval hty hdp hsz hx
    dsimp only [vlA] at hin cO cE
    by_cases hgt : lo > hi
    ·
      rw [if_pos hgt] at cO
      obtain rfl : t = 0 := by rcases ht with h | h; exact h; have := hin.1 h; omega
      rw [show tru 0 = (⟨1, 0, 0, noS⟩ : Vl) from rfl] at cE
      clear ht hin
      dsimp only [rngA] at cO cE
      by_cases h1 : 1 ≤ k - 40
      ·
        refine Run.end hE mixed [(21, .b false), (35, .fn _ _ _ pk), (39, .fn _ _ _ cI), (44, .fn _ _ _ cO), (51, .fn _ _ _ cE), (55, .b true), (58, .b true), (63, .b true), (68, .b false), (72, .b true), (77, .b false), (79, .b true), (86, .b false), (90, hEqR _ (1, 0) (1, 0) true)] ?_
        exact End.go hE
      ·
        refine Run.end hE mixed [(21, .b false), (35, .fn _ _ _ pk), (39, .fn _ _ _ cI), (44, .fn _ _ _ cO), (51, .fn _ _ _ cE), (55, .b true), (58, .b true), (63, .b true), (68, .b false), (72, .b false), (79, .b true), (86, .b false), (90, hEqR _ (1, 0) (1, 0) true)] ?_
        exact End.go hE
    ·
      rw [if_neg hgt] at cO
      rcases ht with rfl | rfl
      ·
        rw [show tru 0 = (⟨1, 0, 0, noS⟩ : Vl) from rfl] at cE
        have hn : ¬ (lo ≤ k - 40 ∧ k - 40 ≤ hi) := fun h => by have := hin.2 h; omega
        clear hin
        dsimp only [rngA] at cO cE
        by_cases h1 : lo ≤ k - 40
        ·
          have h2 : ¬ k - 40 ≤ hi := fun h => hn ⟨h1, h⟩
          refine Run.end hE mixed [(21, .b false), (35, .fn _ _ _ pk), (39, .fn _ _ _ cI), (44, .fn _ _ _ cO), (51, .fn _ _ _ cE), (55, .b true), (58, .b true), (63, .b true), (68, .b false), (72, .b true), (77, .b false), (79, .b true), (86, .b true)] ?_
          exact End.go hE
        ·
          refine Run.end hE mixed [(21, .b false), (35, .fn _ _ _ pk), (39, .fn _ _ _ cI), (44, .fn _ _ _ cO), (51, .fn _ _ _ cE), (55, .b true), (58, .b true), (63, .b true), (68, .b false), (72, .b false), (79, .b true), (86, .b true)] ?_
          exact End.go hE
      ·
        rw [show tru 2 = (⟨1, 1, 0, noS⟩ : Vl) from rfl] at cE
        obtain ⟨h1, h2⟩ := hin.1 rfl
        clear hin
        dsimp only [rngA] at cO cE
        refine Run.end hE mixed [(21, .b false), (35, .fn _ _ _ pk), (39, .fn _ _ _ cI), (44, .fn _ _ _ cO), (51, .fn _ _ _ cE), (55, .b true), (58, .b true), (63, .b true), (68, .b true), (72, .b true), (77, .b true), (79, .b true), (86, .b true)] ?_
        exact End.go hE
end Go.Proofs.YtlcmnhocicehmaaDoor.Vm
end
end
end
end
end
end
