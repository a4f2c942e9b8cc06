/- The value machine, twelfth part: a region whose order is drawn: operations that do not touch one another may come in any order. Conditions: none. -/
import Derived.Test.YtcbdhdblchmofaaDoorVmK
namespace Go.Proofs.YtcbdhdblchmofaaDoor.Vm
open Go Go.RowKit
set_option linter.unusedVariables false
set_option linter.unusedSimpArgs false

/-- What one operation reads and does. -/
structure Rec where
  rt : List (Nat × AV)
  rb : List (Nat × Box)
  nb : List Nat
  d : Option Tmp
  x : AV
  ub : List (Nat × Box)
def Rec.app (r : Rec) (s : St) : St := ⟨s.n, match r.d with | some d => (d, r.x) :: s.tm | none => s.tm, r.ub ++ s.bx⟩
/-- The state holds what the operation reads. -/
structure Rec.Met (r : Rec) (s : St) : Prop where
  t : ∀ p ∈ r.rt, look s.tm p.1 = some p.2
  b : ∀ p ∈ r.rb, look s.bx p.1 = some p.2
  n : ∀ b ∈ r.nb, look s.bx b = none
  d : ∀ t, r.d = some t → t < s.n
def LocalOk (P : Program) (g : Nat → Option (List PV)) (o : Oper) (r : Rec) : Prop := ∀ s, r.Met s → OpOk P g o s (r.app s)
inductive RecOk (P : Program) (g : Nat → Option (List PV)) (ops : Array Oper) (o : Oper) (r : Rec) : Prop
  | plain (hg : o.guard = none) (hd : o.dst = r.d) (h : LocalOk P g o r)
  | yes (j t : Nat) (b want : Bool) (hg : o.guard = some (j, want)) (hd : o.dst = r.d) (hj : (ops[j]?).bind (·.dst) = some t) (ht : (t, .pv (.bool b)) ∈ r.rt) (hb : b = want) (h : LocalOk P g o r)
  | no (j t : Nat) (x : AV) (want : Bool) (hg : o.guard = some (j, want)) (hd : o.dst = r.d) (hj : (ops[j]?).bind (·.dst) = some t) (ht : (t, x) ∈ r.rt) (hb : offB want x = true) (hx : r.x = .tup []) (hu : r.ub = [])
/-- The state when those operations have been. -/
def stOf (S : Nat → Bool) : Nat → List Rec → St → St
  | _, [], s => s
  | k, r :: rs, s => stOf S (k + 1) rs (if S k = true then r.app s else s)
/-- Two states that read the same. -/
def Alike (s s' : St) : Prop := s.n = s'.n ∧ (∀ t, look s.tm t = look s'.tm t) ∧ ∀ b, look s.bx b = look s'.bx b
theorem Alike.refl (s : St) : Alike s s := ⟨rfl, fun _ => rfl, fun _ => rfl⟩
theorem SR.alike {cx : Cx} {s s' : St} {a : Act} {w : World} {G : Gh} (h : SR cx s a w G) (ha : Alike s s') : SR cx s' a w G :=
  ⟨fun t => by have := h.tm t; unfold St.get at this ⊢; rw [← ha.2.1]; exact this, by rw [← ha.1]; exact h.sz, h.df, h.dat, fun b B hB => h.bx b B (by rw [ha.2.2]; exact hB), fun b k hk => by rw [← ha.2.2]; exact h.gb b k hk, fun b x hx => by rw [← ha.2.2]; exact h.gl b x hx, h.inj, h.bel, h.low, h.glo, h.bas⟩
theorem SR.drew {cx : Cx} {s : St} {a : Act} {w : World} {G : Gh} (h : SR cx s a w G) : SR cx s a { w with drawn := w.drawn + 1 } G :=
  ⟨h.tm, h.sz, h.df, h.dat, fun b B hB => by
    have := h.bx b B hB
    cases B with
    | var cs => exact this
    | lst e sz xs =>
      obtain ⟨hh, us, e1, e2, e3, e4, e5⟩ := this
      exact ⟨hh, us, e1, e2, ownsRow_congr e3 (fun _ _ => rfl), e4, e5⟩, h.gb, h.gl, h.inj, ⟨h.bel.os, h.bel.tape, h.bel.output, h.bel.size, h.bel.block⟩, h.low, h.glo, h.bas⟩

/-- The operation writes this slot; this box. -/
def Rec.wt (r : Rec) (t : Nat) : Bool := r.d == some t
def Rec.wb (r : Rec) (b : Nat) : Bool := r.ub.any fun p => p.1 == b
theorem look_app_t {r : Rec} {s : St} {t : Nat} : look (r.app s).tm t = if r.wt t = true then some r.x else look s.tm t := by
  unfold Rec.app Rec.wt
  cases hd : r.d with
  | none => simp
  | some d =>
    simp only [look_cons]
    by_cases c : d = t
    · subst c; simp
    · simp [c]
theorem look_app_b {r : Rec} {s : St} {b : Nat} (hb : r.wb b = false) : look (r.app s).bx b = look s.bx b := by
  unfold Rec.app
  simp only
  rw [look_append]
  have : look r.ub b = none := by
    unfold Rec.wb at hb
    revert hb
    induction r.ub with
    | nil => intro _; rfl
    | cons p l ih =>
      intro hb
      obtain ⟨k, x⟩ := p
      simp only [List.any_cons, Bool.or_eq_false_iff] at hb
      rw [look_cons, if_neg (by simpa using hb.1)]
      exact ih hb.2
  rw [this]
theorem look_app_b' {r : Rec} {s s' : St} {b : Nat} (hb : r.wb b = true) : look (r.app s).bx b = look (r.app s').bx b := by
  unfold Rec.app
  simp only
  rw [look_append, look_append]
  have : ∃ x, look r.ub b = some x := by
    unfold Rec.wb at hb
    revert hb
    induction r.ub with
    | nil => intro h; simp at h
    | cons p l ih =>
      intro hb
      obtain ⟨k, x⟩ := p
      rw [look_cons]
      by_cases c : k = b
      · exact ⟨x, by rw [if_pos c]⟩
      · rw [if_neg c]
        simp only [List.any_cons, Bool.or_eq_true] at hb
        rcases hb with hb | hb
        · exact absurd (by simpa using hb) c
        · exact ih hb
  obtain ⟨x, hx⟩ := this
  rw [hx]

theorem stOf_n (S : Nat → Bool) : ∀ (rs : List Rec) (k : Nat) (s : St), (stOf S k rs s).n = s.n
  | [], k, s => rfl
  | r :: rs, k, s => by
    simp only [stOf]
    rw [stOf_n S rs]
    split <;> rfl
/-- A slot's value hangs on those operations alone that write it. -/
theorem stOf_t {S S' : Nat → Bool} {t : Nat} : ∀ (rs : List Rec) (k : Nat) (s s' : St), look s.tm t = look s'.tm t → (∀ (i : Nat) r, rs[i]? = some r → r.wt t = true → S (k + i) = S' (k + i)) → look (stOf S k rs s).tm t = look (stOf S' k rs s').tm t
  | [], k, s, s', h, _ => h
  | r :: rs, k, s, s', h, hw => by
    simp only [stOf]
    refine stOf_t rs (k + 1) _ _ ?_ (fun i r' hr hw' => by have := hw (i + 1) r' (by simpa using hr) hw'; rw [show k + 1 + i = k + (i + 1) by omega]; exact this)
    cases hwt : r.wt t with
    | true =>
      have e := hw 0 r rfl hwt
      simp only [Nat.add_zero] at e
      cases hS : S k with
      | true => rw [← e, hS, if_pos rfl, if_pos rfl, look_app_t, look_app_t, hwt]; simp
      | false => rw [← e, hS, if_neg (by simp), if_neg (by simp)]; exact h
    | false =>
      have e1 : look (if S k = true then r.app s else s).tm t = look s.tm t := by
        split
        · rw [look_app_t, hwt]; simp
        · rfl
      have e2 : look (if S' k = true then r.app s' else s').tm t = look s'.tm t := by
        split
        · rw [look_app_t, hwt]; simp
        · rfl
      rw [e1, e2]; exact h
theorem stOf_b {S S' : Nat → Bool} {b : Nat} : ∀ (rs : List Rec) (k : Nat) (s s' : St), look s.bx b = look s'.bx b → (∀ (i : Nat) r, rs[i]? = some r → r.wb b = true → S (k + i) = S' (k + i)) → look (stOf S k rs s).bx b = look (stOf S' k rs s').bx b
  | [], k, s, s', h, _ => h
  | r :: rs, k, s, s', h, hw => by
    simp only [stOf]
    refine stOf_b rs (k + 1) _ _ ?_ (fun i r' hr hw' => by have := hw (i + 1) r' (by simpa using hr) hw'; rw [show k + 1 + i = k + (i + 1) by omega]; exact this)
    cases hwb : r.wb b with
    | true =>
      have e := hw 0 r rfl hwb
      simp only [Nat.add_zero] at e
      cases hS : S k with
      | true => rw [← e, hS, if_pos rfl, if_pos rfl]; exact look_app_b' hwb
      | false => rw [← e, hS, if_neg (by simp), if_neg (by simp)]; exact h
    | false =>
      have e1 : look (if S k = true then r.app s else s).bx b = look s.bx b := by
        split
        · exact look_app_b hwb
        · rfl
      have e2 : look (if S' k = true then r.app s' else s').bx b = look s'.bx b := by
        split
        · exact look_app_b hwb
        · rfl
      rw [e1, e2]; exact h
/-- One operation more: it is the last of those that touch what it touches. -/
theorem stOf_more {S : Nat → Bool} {i : Nat} : ∀ (rs : List Rec) (k : Nat) (s : St) (r : Rec), rs[i]? = some r → S (k + i) = false →
    (∀ (j : Nat) r', rs[j]? = some r' → i < j → S (k + j) = true → (∀ t, r.wt t = true → r'.wt t = false) ∧ ∀ b, r.wb b = true → r'.wb b = false) →
    Alike (r.app (stOf S k rs s)) (stOf (fun j => S j || j == k + i) k rs s) := by
  intro rs k s r hr hS hlast
  refine ⟨?_, fun t => ?_, fun b => ?_⟩
  · show (stOf S k rs s).n = _
    rw [stOf_n, stOf_n]
  · rw [look_app_t]
    cases hw : r.wt t with
    | false =>
      simp only [Bool.false_eq_true, if_false]
      refine stOf_t rs k s s rfl (fun j r' hr' hw' => ?_)
      by_cases c : j = i
      · subst c; rw [hr] at hr'; obtain rfl := Option.some.inj hr'; rw [hw] at hw'; cases hw'
      · simp; intro e; omega
    | true =>
      simp only [if_true]
      -- the slot is this operation's
      have key : ∀ (rs : List Rec) (k i : Nat) (s : St) (S : Nat → Bool), rs[i]? = some r → (∀ (j : Nat) r', rs[j]? = some r' → i < j → S (k + j) = true → r'.wt t = false) → S (k + i) = true → look (stOf S k rs s).tm t = some r.x := by
        intro rs
        induction rs with
        | nil => intro k i s S hr; simp at hr
        | cons r0 rs ih =>
          intro k i s S hr hl hSi
          cases i with
          | zero =>
            simp at hr
            subst hr
            simp only [Nat.add_zero] at hSi
            simp only [stOf, hSi, if_true]
            have : look (stOf S (k + 1) rs (r0.app s)).tm t = look (stOf (fun _ => false) (k + 1) rs (r0.app s)).tm t := stOf_t rs (k + 1) _ _ rfl (fun j r' hr' hw' => by
              cases hq : S (k + 1 + j) with
              | false => rfl
              | true =>
                have := hl (j + 1) r' (by simpa using hr') (by omega) (by rw [show k + (j + 1) = k + 1 + j by omega]; exact hq)
                rw [this] at hw'; cases hw')
            rw [this]
            have h0 : ∀ (rs : List Rec) (k : Nat) (s : St), stOf (fun _ => false) k rs s = s := by
              intro rs
              induction rs with
              | nil => intro k s; rfl
              | cons r1 rs ih2 => intro k s; simp only [stOf]; simp only [Bool.false_eq_true, if_false]; exact ih2 _ _
            rw [h0, look_app_t, hw]; simp
          | succ i =>
            simp only [stOf]
            refine ih (k + 1) i _ S (by simpa using hr) (fun j r' hr' hij hq => hl (j + 1) r' (by simpa using hr') (by omega) (by rw [show k + (j + 1) = k + 1 + j by omega]; exact hq)) (by rw [show k + 1 + i = k + (i + 1) by omega]; exact hSi)
      refine (key rs k i s _ hr (fun j r' hr' hij hq => ?_) (by simp)).symm
      have hj : S (k + j) = true := by
        simp at hq
        rcases hq with hq | hq
        · exact hq
        · omega
      exact (hlast j r' hr' hij hj).1 t hw
  · cases hw : r.wb b with
    | false =>
      rw [look_app_b hw]
      refine stOf_b rs k s s rfl (fun j r' hr' hw' => ?_)
      by_cases c : j = i
      · subst c; rw [hr] at hr'; obtain rfl := Option.some.inj hr'; rw [hw] at hw'; cases hw'
      · simp; intro e; omega
    | true =>
      have key : ∀ (rs : List Rec) (k i : Nat) (s s0 : St) (S : Nat → Bool), rs[i]? = some r → (∀ (j : Nat) r', rs[j]? = some r' → i < j → S (k + j) = true → r'.wb b = false) → S (k + i) = true → look (stOf S k rs s).bx b = look (r.app s0).bx b := by
        intro rs
        induction rs with
        | nil => intro k i s s0 S hr; simp at hr
        | cons r0 rs ih =>
          intro k i s s0 S hr hl hSi
          cases i with
          | zero =>
            simp at hr
            subst hr
            simp only [Nat.add_zero] at hSi
            simp only [stOf, hSi, if_true]
            have : look (stOf S (k + 1) rs (r0.app s)).bx b = look (stOf (fun _ => false) (k + 1) rs (r0.app s)).bx b := stOf_b rs (k + 1) _ _ rfl (fun j r' hr' hw' => by
              cases hq : S (k + 1 + j) with
              | false => rfl
              | true =>
                have := hl (j + 1) r' (by simpa using hr') (by omega) (by rw [show k + (j + 1) = k + 1 + j by omega]; exact hq)
                rw [this] at hw'; cases hw')
            rw [this]
            have h0 : ∀ (rs : List Rec) (k : Nat) (s : St), stOf (fun _ => false) k rs s = s := by
              intro rs
              induction rs with
              | nil => intro k s; rfl
              | cons r1 rs ih2 => intro k s; simp only [stOf]; simp only [Bool.false_eq_true, if_false]; exact ih2 _ _
            rw [h0]; exact look_app_b' hw
          | succ i =>
            simp only [stOf]
            refine ih (k + 1) i _ s0 S (by simpa using hr) (fun j r' hr' hij hq => hl (j + 1) r' (by simpa using hr') (by omega) (by rw [show k + (j + 1) = k + 1 + j by omega]; exact hq)) (by rw [show k + 1 + i = k + (i + 1) by omega]; exact hSi)
      refine (key rs k i s _ _ hr (fun j r' hr' hij hq => ?_) (by simp)).symm
      have hj : S (k + j) = true := by
        simp at hq
        rcases hq with hq | hq
        · exact hq
        · omega
      exact (hlast j r' hr' hij hj).2 b hw
end Go.Proofs.YtcbdhdblchmofaaDoor.Vm
