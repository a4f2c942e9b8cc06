/- The value machine, thirteenth part: a region whose order is drawn comes to what its text's order comes to. Conditions: none. -/
import Derived.Test.YtcbdhdblchmofaaDoorVmL
namespace Go.Proofs.YtcbdhdblchmofaaDoor.Vm
open Go Go.RowKit
set_option linter.unusedVariables false
set_option linter.unusedSimpArgs false

/-- Which operations come ahead of an operation, however the order is drawn: as bits. -/
def bmE (acc : List Nat) : List Edge → Nat → Nat
  | [], s => s
  | e :: l, s => bmE acc l (if Region.binds .any e = true then s ||| 2 ^ e.on ||| acc.getD e.on 0 else s)
def masks : List Nat → List Oper → List Nat
  | acc, [] => acc
  | acc, o :: l => masks (acc ++ [bmE acc o.after.toList 0]) l
theorem bmE_bit {acc : List Nat} : ∀ (l : List Edge) (s i : Nat), (bmE acc l s).testBit i = true → s.testBit i = true ∨ ∃ e ∈ l, Region.binds .any e = true ∧ (e.on = i ∨ (acc.getD e.on 0).testBit i = true)
  | [], s, i, h => .inl h
  | e :: l, s, i, h => by
    simp only [bmE] at h
    rcases bmE_bit l _ i h with h1 | ⟨e', h1, h2, h3⟩
    · split at h1
      · rename_i hb
        rw [Nat.testBit_or, Nat.testBit_or, Bool.or_eq_true, Bool.or_eq_true] at h1
        rcases h1 with (h1 | h1) | h1
        · exact .inl h1
        · refine .inr ⟨e, by simp, hb, .inl ?_⟩
          rw [Nat.testBit_two_pow] at h1
          exact of_decide_eq_true h1
        · exact .inr ⟨e, by simp, hb, .inr h1⟩
      · exact .inl h1
    · exact .inr ⟨e', by simp [h1], h2, h3⟩
theorem masks_get : ∀ (l : List Oper) (acc : List Nat) (k : Nat), k < acc.length → (masks acc l)[k]? = acc[k]?
  | [], acc, k, h => rfl
  | o :: l, acc, k, h => by
    simp only [masks]
    rw [masks_get l _ k (by simp; omega), List.getElem?_append_left h]
/-- What comes ahead of an operation that has been has been. -/
def Cl (ops : Array Oper) (S : Nat → Bool) : Prop := ∀ (i : Nat) o, S i = true → ops[i]? = some o → ∀ e ∈ o.after.toList, Region.binds .any e = true → S e.on = true
theorem masks_cl {ops : Array Oper} {S : Nat → Bool} (hS : Cl ops S) : ∀ (l : List Oper) (acc : List Nat), (∀ (i : Nat) o, l[i]? = some o → ops[acc.length + i]? = some o) →
    (∀ (k i : Nat), (acc.getD k 0).testBit i = true → S k = true → S i = true) → ∀ (k i : Nat), ((masks acc l).getD k 0).testBit i = true → S k = true → S i = true
  | [], acc, ho, ha => ha
  | o :: l, acc, ho, ha => by
    simp only [masks]
    refine masks_cl hS l _ (fun i o' h => by have := ho (i + 1) o' (by simpa using h); rw [List.length_append, List.length_singleton, show acc.length + 1 + i = acc.length + (i + 1) by omega]; exact this) (fun k i hb hk => ?_)
    by_cases c : k < acc.length
    · refine ha k i ?_ hk
      rw [List.getD_eq_getElem?_getD, List.getElem?_append_left c] at hb
      rw [List.getD_eq_getElem?_getD]; exact hb
    · by_cases c2 : k = acc.length
      · subst c2
        rw [List.getD_eq_getElem?_getD, List.getElem?_append_right (Nat.le_refl _)] at hb
        simp only [Nat.sub_self, List.getElem?_cons_zero, Option.getD_some] at hb
        rcases bmE_bit _ _ _ hb with h1 | ⟨e, h1, h2, h3⟩
        · simp at h1
        · have hone := hS acc.length o hk (by have := ho 0 o rfl; simpa using this) e h1 h2
          rcases h3 with h3 | h3
          · rw [← h3]; exact hone
          · exact ha e.on i h3 hone
      · rw [List.getD_eq_getElem?_getD, List.getElem?_eq_none (by simp; omega)] at hb
        simp at hb
theorem masks_ready {ops : Array Oper} {S : Nat → Bool} (hS : Cl ops S) {o : Oper} {k : Nat} (hk : ops[k]? = some o) (hr : ∀ e ∈ o.after.toList, Region.binds .any e = true → S e.on = true) : ∀ (i : Nat), ((masks [] ops.toList).getD k 0).testBit i = true → S i = true := by
  intro i hb
  -- the operation itself, added
  have hS' : Cl ops (fun j => S j || j == k) := by
    intro j o' hj ho e he hbd
    simp only [Bool.or_eq_true, beq_iff_eq] at hj ⊢
    rcases hj with hj | hj
    · exact .inl (hS j o' hj ho e he hbd)
    · subst hj
      rw [hk] at ho
      obtain rfl := Option.some.inj ho
      exact .inl (hr e he hbd)
  have key : ∀ (l : List Oper) (acc : List Nat), (∀ (i : Nat) o, l[i]? = some o → ops[acc.length + i]? = some o) → (∀ (q i : Nat), (acc.getD q 0).testBit i = true → (S q = true ∨ q = k) → S i = true) → ∀ (q i : Nat), ((masks acc l).getD q 0).testBit i = true → (S q = true ∨ q = k) → S i = true := by
    intro l
    induction l with
    | nil => intro acc _ ha; exact ha
    | cons o1 l ih =>
      intro acc ho ha
      simp only [masks]
      refine ih _ (fun i o' h => by have := ho (i + 1) o' (by simpa using h); rw [List.length_append, List.length_singleton, show acc.length + 1 + i = acc.length + (i + 1) by omega]; exact this) (fun q i hb hq => ?_)
      by_cases c : q < acc.length
      · refine ha q i ?_ hq
        rw [List.getD_eq_getElem?_getD, List.getElem?_append_left c] at hb
        rw [List.getD_eq_getElem?_getD]; exact hb
      · by_cases c2 : q = acc.length
        · subst c2
          rw [List.getD_eq_getElem?_getD, List.getElem?_append_right (Nat.le_refl _)] at hb
          simp only [Nat.sub_self, List.getElem?_cons_zero, Option.getD_some] at hb
          have hoq : ops[acc.length]? = some o1 := by have := ho 0 o1 rfl; simpa using this
          rcases bmE_bit _ _ _ hb with h1 | ⟨e, h1, h2, h3⟩
          · simp at h1
          · have hone : S e.on = true := by
              rcases hq with hq | hq
              · exact hS acc.length o1 hq hoq e h1 h2
              · rw [hq, hk] at hoq
                obtain rfl := Option.some.inj hoq
                exact hr e h1 h2
            rcases h3 with h3 | h3
            · rw [← h3]; exact hone
            · exact ha e.on i h3 (.inl hone)
        · rw [List.getD_eq_getElem?_getD, List.getElem?_eq_none (by simp; omega)] at hb
          simp at hb
  exact key ops.toList [] (fun i o h => by simpa using h) (fun q i h => by simp at h) k i hb (.inr rfl)

/-- One operation reads or writes what another one writes. -/
def touch (r q : Rec) : Bool := (r.rt.any fun p => q.wt p.1) || (match r.d with | some d => q.wt d | none => false) || (r.rb.any fun p => q.wb p.1) || (r.nb.any fun b => q.wb b) || (r.ub.any fun p => q.wb p.1)
/-- Operations that touch come in one order alone. -/
def apartRow (ms : List Nat) (i : Nat) (r : Rec) : Nat → List Rec → Bool
  | _, [] => true
  | j, q :: qs => (Nat.beq i j || !touch r q || bif Nat.blt j i then (ms.getD i 0).testBit j else (ms.getD j 0).testBit i) && apartRow ms i r (j + 1) qs
def apartAll (ms : List Nat) (all : List Rec) : Nat → List Rec → Bool
  | _, [] => true
  | i, r :: rs => apartRow ms i r 0 all && apartAll ms all (i + 1) rs
def edgesOk : Nat → List Oper → Bool
  | _, [] => true
  | i, o :: l => (o.after.toList.all fun e => !Region.binds .any e || Nat.blt e.on i) && edgesOk (i + 1) l
theorem apartRow_get {ms : List Nat} {i : Nat} {r : Rec} : ∀ (qs : List Rec) (j : Nat), apartRow ms i r j qs = true → ∀ (k : Nat) q, qs[k]? = some q → i ≠ j + k → touch r q = true → (j + k < i → (ms.getD i 0).testBit (j + k) = true) ∧ (i < j + k → (ms.getD (j + k) 0).testBit i = true)
  | [], j, h, k, q, hq => by simp at hq
  | q0 :: qs, j, h, k, q, hq => by
    simp only [apartRow, Bool.and_eq_true] at h
    cases k with
    | zero =>
      simp at hq
      subst hq
      intro hne ht
      simp only [Nat.add_zero] at hne ⊢
      have h1 := h.1
      simp only [Bool.or_eq_true, ht, Bool.not_true, Bool.false_eq_true, or_false] at h1
      rcases h1 with h1 | h1
      · exact absurd (Nat.eq_of_beq_eq_true h1) hne
      · cases hb : Nat.blt j i with
        | true =>
          rw [hb] at h1
          have := Vm.blt hb
          exact ⟨fun _ => h1, fun h => by omega⟩
        | false =>
          rw [hb] at h1
          refine ⟨fun h => ?_, fun _ => h1⟩
          have : Nat.blt j i = true := Nat.ble_eq_true_of_le h
          rw [this] at hb; cases hb
    | succ k =>
      intro hne ht
      have := apartRow_get qs (j + 1) h.2 k q (by simpa using hq) (by omega) ht
      rw [show j + (k + 1) = j + 1 + k by omega]
      exact this
theorem apartAll_get {ms : List Nat} {all : List Rec} : ∀ (rs : List Rec) (i : Nat), apartAll ms all i rs = true → ∀ (k : Nat) r, rs[k]? = some r → apartRow ms (i + k) r 0 all = true
  | [], i, h, k, r, hr => by simp at hr
  | r0 :: rs, i, h, k, r, hr => by
    simp only [apartAll, Bool.and_eq_true] at h
    cases k with
    | zero => simp at hr; subst hr; exact h.1
    | succ k =>
      have := apartAll_get rs (i + 1) h.2 k r (by simpa using hr)
      rw [show i + (k + 1) = i + 1 + k by omega]; exact this
theorem edgesOk_get : ∀ (l : List Oper) (i : Nat), edgesOk i l = true → ∀ (k : Nat) o, l[k]? = some o → ∀ e ∈ o.after.toList, Region.binds .any e = true → e.on < i + k
  | [], i, h, k, o, ho => by simp at ho
  | o0 :: l, i, h, k, o, ho => by
    simp only [edgesOk, Bool.and_eq_true] at h
    cases k with
    | zero =>
      simp at ho
      subst ho
      intro e he hb
      have := List.all_eq_true.1 h.1 e he
      simp only [hb, Bool.not_true, Bool.false_or] at this
      exact Vm.blt this
    | succ k =>
      have := edgesOk_get l (i + 1) h.2 k o (by simpa using ho)
      rw [show i + (k + 1) = i + 1 + k by omega]; exact this

/-- In the text's order each operation finds what it reads. -/
def Canon : St → List Rec → Prop
  | _, [] => True
  | s, r :: rs => r.Met s ∧ Canon (r.app s) rs
theorem canon_met : ∀ (rs : List Rec) (k : Nat) (s : St), Canon s rs → ∀ (i : Nat) r, rs[i]? = some r → r.Met (stOf (fun j => decide (j < k + i)) k rs s)
  | [], k, s, h, i, r, hr => by simp at hr
  | r0 :: rs, k, s, h, i, r, hr => by
    cases i with
    | zero =>
      simp at hr
      subst hr
      have h0 : ∀ (rs : List Rec) (q : Nat) (s : St), k ≤ q → stOf (fun j => decide (j < k + 0)) q rs s = s := by
        intro rs
        induction rs with
        | nil => intro q s _; rfl
        | cons r1 rs ih => intro q s hq; simp only [stOf]; rw [if_neg (by simp; omega)]; exact ih _ _ (by omega)
      rw [h0 _ _ _ (Nat.le_refl _)]
      exact h.1
    | succ i =>
      simp only [stOf]
      rw [if_pos (by simp)]
      have := canon_met rs (k + 1) (r0.app s) h.2 i r (by simpa using hr)
      rw [show k + (i + 1) = k + 1 + i by omega]; exact this
def un (S : Nat → Bool) (m : Nat) : Nat := ((List.range m).filter fun j => !S j).length
theorem un_succ (S : Nat → Bool) (m : Nat) : un S (m + 1) = un S m + if S m = true then 0 else 1 := by
  unfold un
  rw [List.range_succ, List.filter_append, List.length_append]
  congr 1
  cases h : S m <;> simp [h]
theorem un_more {S : Nat → Bool} {i : Nat} : ∀ (m : Nat), S i = false → (i < m → un (fun j => S j || j == i) m + 1 = un S m) ∧ (m ≤ i → un (fun j => S j || j == i) m = un S m)
  | 0, h => ⟨fun h => by omega, fun _ => rfl⟩
  | m + 1, h => by
    obtain ⟨e1, e2⟩ := un_more m h
    rw [un_succ, un_succ]
    refine ⟨fun hi => ?_, fun hi => ?_⟩
    · by_cases c : i = m
      · subst c
        rw [e2 (Nat.le_refl _), h]
        simp
      · have := e1 (by omega)
        have hm : (S m || m == i) = S m := by simp; intro e; omega
        rw [hm]; omega
    · have hm : (S m || m == i) = S m := by simp; intro e; omega
      rw [e2 (by omega), hm]
theorem un_zero {S : Nat → Bool} {m : Nat} (h : un S m = 0) : ∀ i, i < m → S i = true := by
  intro i hi
  cases hS : S i with
  | true => rfl
  | false =>
    have : i ∈ (List.range m).filter fun j => !S j := by simp [hi, hS]
    unfold un at h
    rw [List.eq_nil_of_length_eq_zero h] at this
    simp at this

section
variable {P : Program} {g : Nat → Option (List PV)} {s : St}
theorem draw_any {cx : Cx} {l : List Oper} {rs : List Rec} {Q : Exit → Act → World → Prop} (hP : cx.P = P) (hg : cx.g = g) (hlen : rs.length = l.length) (hrec : ∀ (i : Nat) o r, l[i]? = some o → rs[i]? = some r → RecOk P g l.toArray o r) (hcan : Canon s rs)
    (hed : edgesOk 0 l = true) (hap : apartAll (masks [] l) rs 0 rs = true) (hQ : ∀ a w G, SR cx (stOf (fun _ => true) 0 rs s) a w G → Q .normal a w) :
    ∀ (fuel : Nat) (listed : Array Bool) (a : Act) (w : World) (G : Gh), listed.size = l.length → un (fun j => listed.getD j false) l.length ≤ fuel → Cl l.toArray (fun j => listed.getD j false) → SR cx (stOf (fun j => listed.getD j false) 0 rs s) a w G → wpAny P .any l.toArray Q fuel listed a w := by
  intro fuel
  have hready : ∀ listed : Array Bool, listed.size = l.length → ∀ i, i ∈ Region.ready .any l.toArray listed ↔ i < l.length ∧ listed.getD i false = false ∧ ∃ o, l[i]? = some o ∧ ∀ e ∈ o.after.toList, Region.binds .any e = true → listed.getD e.on false = true := by
    intro listed hsz i
    unfold Region.ready
    simp only [List.mem_filter, List.mem_range, List.size_toArray, Bool.and_eq_true]
    constructor
    · rintro ⟨h1, h2, h3⟩
      have hlt : i < listed.size := by omega
      refine ⟨h1, ?_, l[i], by simp [h1], fun e he hb => ?_⟩
      · simp [Array.getD, hlt] at h2 ⊢; exact h2
      · simp only [List.getElem?_toArray, List.getElem?_eq_getElem h1, Option.map_some, Option.getD_some] at h3
        rw [Array.all_eq_true_iff_forall_mem] at h3
        have := h3 e (by simpa using he)
        simpa [hb] using this
    · rintro ⟨h1, h2, o, h3, h4⟩
      have hlt : i < listed.size := by omega
      refine ⟨h1, ?_, ?_⟩
      · simp [Array.getD, hlt] at h2 ⊢; exact h2
      · simp only [List.getElem?_toArray, h3, Option.map_some, Option.getD_some]
        rw [Array.all_eq_true_iff_forall_mem]
        intro e he
        cases hb : Region.binds .any e with
        | false => simp
        | true => simp [h4 e (by simpa using he) hb]
  have hsome : ∀ listed : Array Bool, listed.size = l.length → Region.ready .any l.toArray listed = [] → ∀ i, i < l.length → listed.getD i false = true := by
    intro listed hsz hnil i
    induction i using Nat.strongRecOn with
    | _ i ih =>
      intro hi
      cases hS : listed.getD i false with
      | true => rfl
      | false =>
        have : i ∈ Region.ready .any l.toArray listed := (hready listed hsz i).2 ⟨hi, hS, l[i], by simp [hi], fun e he hb => by
          have := edgesOk_get l 0 hed i l[i] (by simp [hi]) e he hb
          exact ih e.on (by omega) (by omega)⟩
        rw [hnil] at this
        simp at this
  have hall : ∀ listed : Array Bool, listed.size = l.length → (∀ i, i < l.length → listed.getD i false = true) → ∀ a w G, SR cx (stOf (fun j => listed.getD j false) 0 rs s) a w G → Q .normal a w := by
    intro listed hsz hall a w G h
    refine hQ a w G (h.alike ⟨?_, fun t => ?_, fun b => ?_⟩)
    · rw [stOf_n, stOf_n]
    · exact stOf_t rs 0 s s rfl (fun i r hr _ => by
        have := (List.getElem?_eq_some_iff.1 hr).1
        exact hall (0 + i) (by omega))
    · exact stOf_b rs 0 s s rfl (fun i r hr _ => by
        have := (List.getElem?_eq_some_iff.1 hr).1
        exact hall (0 + i) (by omega))
  induction fuel with
  | zero =>
    intro listed a w G hsz hun hcl h
    have hfull := un_zero (Nat.le_zero.1 hun)
    refine ⟨?_, hall listed hsz hfull a w G h⟩
    cases hr : Region.ready .any l.toArray listed with
    | nil => rfl
    | cons i is =>
      have : i ∈ Region.ready .any l.toArray listed := by rw [hr]; simp
      obtain ⟨h1, h2, _⟩ := (hready listed hsz i).1 this
      rw [hfull i h1] at h2; cases h2
  | succ fuel ih =>
    intro listed a w G hsz hun hcl h
    refine ⟨fun hnil => hall listed hsz (hsome listed hsz hnil) a w G h, fun i hi => ?_⟩
    obtain ⟨h1, h2, o, h3, h4⟩ := (hready listed hsz i).1 hi
    obtain ⟨r, hr⟩ : ∃ r, rs[i]? = some r := ⟨rs[i]'(by omega), by simp [show i < rs.length by omega]⟩
    have hoa : l.toArray[i]? = some o := by simpa using h3
    have hrd := masks_ready hcl hoa h4
    have hmk := masks_cl hcl l [] (fun i o h => by simpa using h) (fun q i h => by simp at h)
    -- who touches what this operation touches
    have htouch : ∀ (j : Nat) q, rs[j]? = some q → touch r q = true → listed.getD j false = decide (j < i) := by
      intro j q hq ht
      by_cases c : i = j
      · subst c; rw [h2]; simp
      · have h5 := apartAll_get rs 0 hap i r hr
        rw [Nat.zero_add] at h5
        have h6 := apartRow_get rs 0 h5 j q hq (by omega) ht
        rw [Nat.zero_add] at h6
        by_cases c2 : j < i
        · rw [hrd j (h6.1 c2)]; simp [c2]
        · cases hS : listed.getD j false with
          | false => simp; omega
          | true =>
            have := hmk j i (h6.2 (by omega)) hS
            rw [h2] at this; cases this
    have hmet : r.Met (stOf (fun j => listed.getD j false) 0 rs s) := by
      have hc := canon_met rs 0 s hcan i r hr
      refine ⟨fun p hp => ?_, fun p hp => ?_, fun b hb => ?_, fun t ht => by rw [stOf_n]; have := hc.d t ht; rw [stOf_n] at this; exact this⟩
      · rw [← hc.t p hp]
        refine stOf_t rs 0 s s rfl (fun j q hq hw => ?_)
        simp only [Nat.zero_add]
        exact htouch j q hq (by unfold touch; simp only [Bool.or_eq_true]; exact .inl (.inl (.inl (.inl (List.any_eq_true.2 ⟨p, hp, hw⟩)))))
      · rw [← hc.b p hp]
        refine stOf_b rs 0 s s rfl (fun j q hq hw => ?_)
        simp only [Nat.zero_add]
        exact htouch j q hq (by unfold touch; simp only [Bool.or_eq_true]; exact .inl (.inl (.inr (List.any_eq_true.2 ⟨p, hp, hw⟩))))
      · rw [← hc.n b hb]
        refine stOf_b rs 0 s s rfl (fun j q hq hw => ?_)
        simp only [Nat.zero_add]
        exact htouch j q hq (by unfold touch; simp only [Bool.or_eq_true]; exact .inl (.inr (List.any_eq_true.2 ⟨b, hb, hw⟩)))
    have hnext : ∀ a' w' G', SR cx (r.app (stOf (fun j => listed.getD j false) 0 rs s)) a' w' G' → wpAny P .any l.toArray Q fuel (listed.setIfInBounds i true) a' w' := by
      intro a' w' G' h'
      have hSeq : (fun j => (listed.setIfInBounds i true).getD j false) = fun j => listed.getD j false || j == i := by
        funext j
        by_cases c : j = i
        · subst c
          have hlt : j < listed.size := by omega
          simp [Array.getD_eq_getD_getElem?, hlt]
        · have c' : i ≠ j := fun e => c e.symm
          have c'' : (j == i) = false := by simpa using c
          simp [Array.getD_eq_getD_getElem?, Array.getElem?_setIfInBounds_ne c', c'']
      refine ih _ a' w' G' (by simpa using hsz) ?_ ?_ ?_
      · rw [hSeq]
        have := (un_more (S := fun j => listed.getD j false) (i := i) l.length h2).1 h1
        omega
      · rw [hSeq]
        intro j o' hj ho e he hb
        simp only [Bool.or_eq_true, beq_iff_eq] at hj ⊢
        rcases hj with hj | hj
        · exact .inl (hcl j o' hj ho e he hb)
        · subst hj
          rw [hoa] at ho
          obtain rfl := Option.some.inj ho
          exact .inl (h4 e he hb)
      · rw [hSeq]
        have := stOf_more (S := fun j => listed.getD j false) (i := i) rs 0 s r hr (by simpa using h2) (fun j q hq hij hSj => by
          have hno : touch r q = false := by
            cases ht : touch r q with
            | false => rfl
            | true =>
              have := htouch j q hq ht
              simp only [Nat.zero_add] at hSj
              rw [hSj] at this
              simp at this; omega
          unfold touch at hno
          simp only [Bool.or_eq_false_iff] at hno
          refine ⟨fun t ht => ?_, fun b hb => ?_⟩
          · unfold Rec.wt at ht
            have hd : r.d = some t := by simpa using ht
            have h5 := hno.1.1.1.2
            rw [hd] at h5
            exact h5
          · cases hq' : q.wb b with
            | false => rfl
            | true =>
              unfold Rec.wb at hb
              obtain ⟨p, hp, hpb⟩ := List.any_eq_true.1 hb
              have hpb' : p.1 = b := by simpa using hpb
              have h5 := List.any_eq_false.1 hno.2 p hp
              rw [hpb'] at h5
              exact absurd hq' h5)
        simp only [Nat.zero_add] at this
        exact h'.alike this
    have hro := hrec i o r h3 hr
    unfold wpOp
    rw [hoa]
    simp only
    cases hro with
    | plain hgd hd hl =>
      rw [if_pos (by simp [Region.wanted, hgd])]
      exact .inl (hl _ hmet cx a w G hP hg h _ _ fun a' w' G' h' => hnext a' w' G' h')
    | yes j t b want hgd hd hj ht hb hl =>
      have hlk := hmet.t _ ht
      have hy := yielded_of hj (h.boolSlot (s := stOf (fun j => listed.getD j false) 0 rs s) (t := t) (b := b) (by unfold St.get; rw [hlk]; rfl))
      rw [if_pos (by simp [Region.wanted, hgd, hy, hb])]
      exact .inl (hl _ hmet cx a w G hP hg h _ _ fun a' w' G' h' => hnext a' w' G' h')
    | no j t x want hgd hd hj ht hb hx hu =>
      have hlk := hmet.t _ ht
      have hy := yielded_off hj (h.slot (s := stOf (fun j => listed.getD j false) 0 rs s) (t := t) (x := x) (by unfold St.get; rw [hlk]; rfl)) hb
      rw [if_neg (by simp [Region.wanted, hgd, hy])]
      refine hnext _ _ G ?_
      have := h.putO (d := r.d) (x := .tup []) (v := undef) (fun t ht => hmet.d t ht) RA.undef
      rw [hd]
      unfold Rec.app
      rw [hu, hx]
      cases hrd' : r.d with
      | none => rw [hrd'] at this; exact this
      | some d => rw [hrd'] at this; exact this

/-- A region whose order is drawn. -/
theorem Runs.draw {id : Nat} {l : List Oper} {rs : List Rec} (hm : P.follows .mixedOrders = true) (hlen : rs.length = l.length) (hrec : ∀ (i : Nat) o r, l[i]? = some o → rs[i]? = some r → RecOk P g l.toArray o r) (hcan : Canon s rs) (hed : edgesOk 0 l = true) (hap : apartAll (masks [] l) rs 0 rs = true) :
    Runs P g (.region id l.toArray true) s .normal (stOf (fun _ => true) 0 rs s) := by
  intro cx a w G hP hg h
  refine wp_region_any hm ?_
  have hf : (fun j => (Array.replicate l.toArray.size false).getD j false) = fun _ => false := by
    funext j
    simp [Array.getD_eq_getD_getElem?, Array.getElem?_replicate]
    split <;> rfl
  refine draw_any hP hg hlen hrec hcan hed hap (fun a w G h => ⟨trivial, G, h⟩) _ _ a _ G (by simp) ?_ ?_ ?_
  · unfold un
    refine Nat.le_trans (List.length_filter_le _ _) (by simp)
  · intro i o hi
    rw [hf] at hi
    cases hi
  · rw [hf]
    have h0 : ∀ (rs : List Rec) (k : Nat) (s : St), stOf (fun _ => false) k rs s = s := by
      intro rs
      induction rs with
      | nil => intro k s; rfl
      | cons r1 rs ih2 => intro k s; simp only [stOf]; simp only [Bool.false_eq_true, if_false]; exact ih2 _ _
    rw [h0]
    exact h.drew
end
end Go.Proofs.YtcbdhdblchmofaaDoor.Vm
