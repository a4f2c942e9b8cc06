/- The walk by reckoning: functions. Conditions: none. -/
import Derived.Test.YtlcmnhocicehmaaDoorExec
import Derived.Test.YtlcmnhocicehmaaDoorRowV
section
namespace Go.Proofs.YtlcmnhocicehmaaDoor.Vm
open Go Go.RowKit
set_option linter.unusedVariables false
set_option linter.unusedSimpArgs false
inductive GuardO where
  | run (ex : List (Nat × AV))
  | skip (t : Nat) (x : AV)
  | stuck
def slotO : List Oper → Nat → Option Nat
  | [], _ => none
  | o :: _, 0 => o.dst
  | _ :: l, j + 1 => slotO l j
theorem slotO_ok : ∀ {l : List Oper} {j t : Nat}, slotO l j = some t → (l[j]?).bind (·.dst) = some t
  | o :: l, 0, t, h => h
  | o :: l, j + 1, t, h => by simpa using slotO_ok (l := l) h
def guardO (tm : List (Nat × AV)) (all : List Oper) : Option (Nat × Bool) → GuardO
  | none => .run []
  | some (j, want) => match slotO all j with
    | some t => match look tm t with
      | some (.pv (.bool b)) => match b, want with
        | true, true => .run [(t, .pv (.bool true))]
        | false, false => .run [(t, .pv (.bool false))]
        | true, false => .skip t (.pv (.bool true))
        | false, true => .skip t (.pv (.bool false))
      | some (.tup []) => .skip t (.tup [])
      | _ => .stuck
    | none => .stuck
def appB : List (Nat × Box) → List (Nat × Box) → List (Nat × Box)
  | [], l => l
  | p :: q, l => p :: appB q l
theorem appB_eq : ∀ (a b : List (Nat × Box)), appB a b = a ++ b
  | [], b => rfl
  | p :: q, b => by simp only [appB, appB_eq q b, List.cons_append]
def putRec {α : Type} (r : Rec) (tm : List (Nat × AV)) (bx : List (Nat × Box)) (k : List (Nat × AV) → List (Nat × Box) → α) : α :=
  match r with
  | ⟨_, _, _, some d, x, []⟩ => k ((d, x) :: tm) bx
  | ⟨_, _, _, some d, x, [p]⟩ => k ((d, x) :: tm) (p :: bx)
  | ⟨_, _, _, some d, x, p :: q⟩ => k ((d, x) :: tm) (p :: appB q bx)
  | ⟨_, _, _, none, x, []⟩ => k tm bx
  | ⟨_, _, _, none, x, [p]⟩ => k tm (p :: bx)
  | ⟨_, _, _, none, x, p :: q⟩ => k tm (p :: appB q bx)
theorem putRec_eq {α : Type} (r : Rec) (n : Nat) (tm : List (Nat × AV)) (bx : List (Nat × Box)) (k : List (Nat × AV) → List (Nat × Box) → α) : putRec r tm bx k = k (r.app ⟨n, tm, bx⟩).tm (r.app ⟨n, tm, bx⟩).bx := by
  obtain ⟨rt, rb, nb, d, x, ub⟩ := r
  cases d <;> rcases ub with _ | ⟨p, _ | ⟨q, l⟩⟩ <;> simp [putRec, Rec.app, appB_eq, appB]
def addOb {α : Type} (o : Ob) (ob : Prop) (k : Prop → α) : α :=
  match o with
  | .t => k ob
  | .p q => k (q ∧ ob)
theorem addOb_ok {α : Type} (o : Ob) (ob : Prop) (k : Prop → α) : ∃ ob', addOb o ob k = k ob' ∧ (ob' → o.holds ∧ ob) := by
  cases o with
  | t => exact ⟨ob, rfl, fun h => ⟨trivial, h⟩⟩
  | p q => exact ⟨q ∧ ob, rfl, fun h => h⟩
/-- What is left of a region. -/
structure OC (E : Env) where
  l : List Oper
  tm : List (Nat × AV)
  bx : List (Nat × Box)
  ob : Prop
  acc : List Rec
def exOps (E : Env) (n : Nat) (hs : List (Nat × Hint E)) (all : List Oper) : List Oper → List (Nat × AV) → List (Nat × Box) → Prop → List Rec → OC E
  | [], tm, bx, ob, acc => ⟨[], tm, bx, ob, acc⟩
  | o :: l, tm, bx, ob, acc =>
    match o with
    | ⟨dst, op, ty, pos, after, g⟩ => match guardO tm all g with
      | .run ex => match step E n tm bx hs dst op with
        | .ok r ob1 => addOb ob1 ob fun ob => putRec r tm bx fun tm bx => exOps E n hs all l tm bx ob ({ r with rt := ex ++ r.rt } :: acc)
        | .stuck => ⟨⟨dst, op, ty, pos, after, g⟩ :: l, tm, bx, ob, acc⟩
      | .skip t x => match dst with
        | some d => match Nat.blt d n with
          | true => exOps E n hs all l ((d, .tup []) :: tm) bx ob (⟨[(t, x)], [], [], some d, .tup [], []⟩ :: acc)
          | false => ⟨⟨some d, op, ty, pos, after, g⟩ :: l, tm, bx, ob, acc⟩
        | none => exOps E n hs all l tm bx ob (⟨[(t, x)], [], [], none, .tup [], []⟩ :: acc)
      | .stuck => ⟨⟨dst, op, ty, pos, after, g⟩ :: l, tm, bx, ob, acc⟩
inductive Pre (P : Program) (g : Gb) (ops : Array Oper) : List Oper → St → List Rec → List Oper → St → Prop
  | nil (l : List Oper) (s : St) : Pre P g ops l s [] l s
  | cons {o : Oper} {l l' : List Oper} {s s' : St} {r : Rec} {rs : List Rec} (h : RecOk P g ops o r) (hm : r.Met s) (t : Pre P g ops l (r.app s) rs l' s') : Pre P g ops (o :: l) s (r :: rs) l' s'
def revA {α : Type} : List α → List α → List α
  | [], l => l
  | a :: acc, l => revA acc (a :: l)
section
variable {P : Program} {g : Gb} {ops : Array Oper}
theorem Pre.dr {l l' : List Oper} {s s' : St} {rs : List Rec} (h : Pre P g ops l s rs l' s') : ∀ {Θ : List Rec → St → Prop}, Dr P g ops l' s' (fun qs => Θ (rs ++ qs)) → Dr P g ops l s Θ := by
  induction h with
  | nil l s => exact fun k => k
  | cons h hm _ ih => exact fun {Θ} k => Dr.cons h hm (ih (Θ := fun qs => Θ (_ :: qs)) k)
theorem Ops.ofRec {o : Oper} {l : List Oper} {s : St} {r : Rec} {Θ : St → Prop} (h : RecOk P g ops o r) (hm : r.Met s) (k : Ops P g ops l (r.app s) Θ) : Ops P g ops (o :: l) s Θ := by
  cases h with
  | plain hg hd h => exact Ops.op hg (h s hm) k
  | yes j t b want hg hd hj ht hb h => exact Ops.yes hg hj (by simp only [St.get, hm.t _ ht]; rfl) hb (h s hm) k
  | no j t x want hg hd hj ht hb hx hu =>
    refine Ops.no hg hj (x := x) (by simp only [St.get, hm.t _ ht]; rfl) hb ?_ ?_
    · cases ho : o.dst with
      | none => rfl
      | some t => exact Nat.ble_eq_true_of_le (hm.d t (by rw [← hd, ho]))
    · obtain ⟨rt, rb, nb, d, x', ub⟩ := r
      dsimp only at hd hx hu
      subst hx
      subst hu
      subst hd
      cases ho : o.dst with
      | none => rw [ho] at k; exact k
      | some t => rw [ho] at k; exact k
theorem Pre.op {l l' : List Oper} {s s' : St} {rs : List Rec} (h : Pre P g ops l s rs l' s') {Θ : St → Prop} : Ops P g ops l' s' Θ → Ops P g ops l s Θ := by
  induction h with
  | nil l s => exact fun k => k
  | cons h hm _ ih => exact fun k => Ops.ofRec h hm (ih k)
end
theorem guard_run {E : Env} {n : Nat} {tm : List (Nat × AV)} {bx : List (Nat × Box)} {all : List Oper} {g : Option (Nat × Bool)} {ex : List (Nat × AV)} {dst : Option Tmp} {op : Op} {ty : TypeId} {pos : String} {after : Array Edge} {r : Rec} (h : guardO tm all g = .run ex) (hf : Fits E n tm bx all.toArray ⟨dst, op, ty, pos, after, none⟩ r) : Fits E n tm bx all.toArray ⟨dst, op, ty, pos, after, g⟩ { r with rt := ex ++ r.rt } := by
  obtain ⟨h1, h2⟩ := hf
  cases g with
  | none =>
    obtain rfl := GuardO.run.inj h
    exact ⟨h1, h2⟩
  | some jw =>
    obtain ⟨j, want⟩ := jw
    simp only [guardO] at h
    split at h
    · rename_i t ht
      have hj : (all.toArray[j]?).bind (·.dst) = some t := by simpa using slotO_ok ht
      have key : ∀ b : Bool, b = want → look tm t = some (.pv (.bool b)) → ex = [(t, .pv (.bool b))] → Fits E n tm bx all.toArray ⟨dst, op, ty, pos, after, some (j, want)⟩ { r with rt := ex ++ r.rt } := by
        intro b hb hl he
        subst he
        refine ⟨.yes j t b want rfl ?_ hj (by simp) hb ?_, ⟨fun p hp => ?_, h2.b, h2.n, h2.d⟩⟩
        · cases h1 with
          | plain hg hd hl => exact hd
          | yes _ _ _ _ hg => cases hg
          | no _ _ _ _ hg => cases hg
        · cases h1 with
          | plain hg hd hl =>
            intro s hs cx a w G hP hg' hs'
            exact hl s ⟨fun p hp => hs.t p (List.mem_cons_of_mem _ hp), hs.b, hs.n, hs.d⟩ cx a w G hP hg' hs'
          | yes _ _ _ _ hg => cases hg
          | no _ _ _ _ hg => cases hg
        · rcases List.mem_cons.1 hp with rfl | hp
          · exact hl
          · exact h2.t p hp
      split at h
      · rename_i b hl
        split at h
        · exact key true rfl hl (GuardO.run.inj h).symm
        · exact key false rfl hl (GuardO.run.inj h).symm
        · cases h
        · cases h
      · cases h
      · cases h
    · cases h
theorem guard_skip {P : Program} {gb : Gb} {n : Nat} {tm : List (Nat × AV)} {bx : List (Nat × Box)} {all : List Oper} {g : Option (Nat × Bool)} {t : Nat} {x : AV} {dst : Option Tmp} {op : Op} {ty : TypeId} {pos : String} {after : Array Edge} (h : guardO tm all g = .skip t x) (hd : dstOk dst n = true) :
    RecOk P gb all.toArray ⟨dst, op, ty, pos, after, g⟩ ⟨[(t, x)], [], [], dst, .tup [], []⟩ ∧ Rec.Met ⟨[(t, x)], [], [], dst, .tup [], []⟩ ⟨n, tm, bx⟩ := by
  cases g with
  | none => cases h
  | some jw =>
    obtain ⟨j, want⟩ := jw
    simp only [guardO] at h
    split at h
    · rename_i t' ht
      have hj : (all.toArray[j]?).bind (·.dst) = some t' := by simpa using slotO_ok ht
      have key : look tm t' = some x → offB want x = true → t' = t → RecOk P gb all.toArray ⟨dst, op, ty, pos, after, some (j, want)⟩ ⟨[(t, x)], [], [], dst, .tup [], []⟩ ∧ Rec.Met ⟨[(t, x)], [], [], dst, .tup [], []⟩ ⟨n, tm, bx⟩ := by
        intro hl hb he
        subst he
        exact ⟨.no j t' x want rfl rfl hj (by simp) hb rfl rfl, met_mk (fun p hp => by simp at hp; subst hp; exact hl) none_met none_new hd⟩
      split at h
      · rename_i b hl
        split at h
        · cases h
        · cases h
        · obtain ⟨e1, e2⟩ := GuardO.skip.inj h
          subst e2
          exact key hl rfl e1
        · obtain ⟨e1, e2⟩ := GuardO.skip.inj h
          subst e2
          exact key hl rfl e1
      · rename_i hl
        obtain ⟨e1, e2⟩ := GuardO.skip.inj h
        subst e2
        exact key hl rfl e1
      · cases h
    · cases h
theorem exOps_ok {E : Env} {n : Nat} {hs : List (Nat × Hint E)} {all : List Oper} (hE : E.Ok) : ∀ (l : List Oper) (tm : List (Nat × AV)) (bx : List (Nat × Box)) (ob : Prop) (acc : List Rec), (exOps E n hs all l tm bx ob acc).ob →
    ob ∧ ∃ rs, Pre E.P E.g all.toArray l ⟨n, tm, bx⟩ rs (exOps E n hs all l tm bx ob acc).l ⟨n, (exOps E n hs all l tm bx ob acc).tm, (exOps E n hs all l tm bx ob acc).bx⟩ ∧ ∀ x, revA (exOps E n hs all l tm bx ob acc).acc x = revA acc (rs ++ x)
  | [], tm, bx, ob, acc, h => ⟨h, [], .nil _ _, fun x => rfl⟩
  | ⟨dst, op, ty, pos, after, g⟩ :: l, tm, bx, ob, acc, h => by
    simp only [exOps] at h ⊢
    split at h
    · rename_i ex hg
      split at h
      · rename_i r ob1 hst
        obtain ⟨ob', e1, e2⟩ := addOb_ok ob1 ob fun ob => putRec r tm bx fun tm bx => exOps E n hs all l tm bx ob ({ r with rt := ex ++ r.rt } :: acc)
        try simp only [hg, hst] at h
        try simp only [hg, hst]
        rw [e1] at h ⊢
        simp only [putRec_eq r n] at h ⊢
        obtain ⟨i1, rs, i2, i3⟩ := exOps_ok hE l _ _ _ _ h
        obtain ⟨j1, j2⟩ := e2 i1
        obtain ⟨k1, k2⟩ := guard_run hg (step_ok (ops := all.toArray) (ty := ty) (pos := pos) (after := after) hE hst j1)
        exact ⟨j2, { r with rt := ex ++ r.rt } :: rs, .cons k1 k2 i2, i3⟩
      · rename_i hst
        try simp only [hg, hst] at h
        try simp only [hg, hst]
        exact ⟨h, [], .nil _ _, fun x => rfl⟩
    · rename_i t x hg
      split at h
      · rename_i d
        split at h
        · rename_i hd
          try simp only [hg, hd] at h
          try simp only [hg, hd]
          obtain ⟨i1, rs, i2, i3⟩ := exOps_ok hE l _ _ _ _ h
          obtain ⟨k1, k2⟩ := guard_skip (P := E.P) (gb := E.g) (bx := bx) (dst := some d) (op := op) (ty := ty) (pos := pos) (after := after) hg hd
          exact ⟨i1, _ :: rs, .cons k1 k2 i2, i3⟩
        · rename_i hd
          try simp only [hg, hd] at h
          try simp only [hg, hd]
          exact ⟨h, [], .nil _ _, fun x => rfl⟩
      · try simp only [hg] at h
        try simp only [hg]
        obtain ⟨i1, rs, i2, i3⟩ := exOps_ok hE l _ _ _ _ h
        obtain ⟨k1, k2⟩ := guard_skip (P := E.P) (gb := E.g) (n := n) (bx := bx) (dst := none) (op := op) (ty := ty) (pos := pos) (after := after) hg rfl
        exact ⟨i1, _ :: rs, .cons k1 k2 i2, i3⟩
    · rename_i hg
      try simp only [hg] at h
      try simp only [hg]
      exact ⟨h, [], .nil _ _, fun x => rfl⟩
/-- What is still to come behind the code at hand. -/
inductive Fr where
  | thn (d : Code)
  | blk (id : Nat)
  | rnd (c : Code)
def unw (P : Program) (g : Gb) : List Fr → (Ex → St → Prop) → Ex → St → Prop
  | [], Φ => Φ
  | .thn d :: K, Φ => thenR P g d (unw P g K Φ)
  | .blk i :: K, Φ => blockR i (unw P g K Φ)
  | .rnd c :: K, Φ => roundR P g c (unw P g K Φ)
/-- What is at hand: code, an end, the rest of a region. -/
inductive Foc where
  | code (c : Code)
  | out (x : Ex)
  | ops (all l : List Oper)
  | drs (all l : List Oper) (acc : List Rec)
structure Cf (E : Env) where
  f : Foc
  K : List Fr
  tm : List (Nat × AV)
  bx : List (Nat × Box)
  ob : Prop
def Foc.H (E : Env) (n : Nat) (f : Foc) (K : List Fr) (Φ : Ex → St → Prop) (tm : List (Nat × AV)) (bx : List (Nat × Box)) : Prop :=
  match f with
  | .code c => Run E.P E.g c ⟨n, tm, bx⟩ (unw E.P E.g K Φ)
  | .out x => unw E.P E.g K Φ x ⟨n, tm, bx⟩
  | .ops all l => Ops E.P E.g all.toArray l ⟨n, tm, bx⟩ (fun s => unw E.P E.g K Φ .normal s)
  | .drs all l acc => Dr E.P E.g all.toArray l ⟨n, tm, bx⟩ (fun rs s => apartAll (masks [] all) (revA acc rs) 0 (revA acc rs) = true ∧ unw E.P E.g K Φ .normal s)
def hintC {E : Env} (hs : List (Nat × Hint E)) : Operand → Option Bool
  | .tmp t => match look hs t with
    | some (.c v) => some v
    | _ => none
  | _ => none
def exec (E : Env) (n : Nat) (hs : List (Nat × Hint E)) : Nat → Foc → List Fr → List (Nat × AV) → List (Nat × Box) → Prop → Cf E
  | 0, f, K, tm, bx, ob => ⟨f, K, tm, bx, ob⟩
  | k + 1, f, K, tm, bx, ob => match f with
    | .code c => match c with
      | .skip => exec E n hs k (.out .normal) K tm bx ob
      | .seq a b => exec E n hs k (.code a) (.thn b :: K) tm bx ob
      | .block i c => exec E n hs k (.code c) (.blk i :: K) tm bx ob
      | .cond q a b => match evO E tm q with
        | some (.pv (.bool v)) => match hintC hs q with
          | some true => exec E n hs k (.code a) K tm bx (v = true ∧ ob)
          | some false => exec E n hs k (.code b) K tm bx (v = false ∧ ob)
          | none => match v with
            | true => exec E n hs k (.code a) K tm bx ob
            | false => exec E n hs k (.code b) K tm bx ob
        | _ => ⟨.code (.cond q a b), K, tm, bx, ob⟩
      | .region id ops draw => match draw with
        | false => match exOps E n hs ops.toList ops.toList tm bx ob [] with
          | ⟨[], tm, bx, ob, _⟩ => exec E n hs k (.out .normal) K tm bx ob
          | ⟨o :: l, tm, bx, ob, _⟩ => ⟨.ops ops.toList (o :: l), K, tm, bx, ob⟩
        | true => match exOps E n hs ops.toList ops.toList tm bx ob [] with
          | ⟨[], tm, bx, ob, acc⟩ => exec E n hs k (.out .normal) K tm bx ((edgesOk 0 ops.toList && apartAll (masks [] ops.toList) (revA acc []) 0 (revA acc [])) = true ∧ ob)
          | ⟨o :: l, tm, bx, ob, acc⟩ => ⟨.drs ops.toList (o :: l) acc, K, tm, bx, edgesOk 0 ops.toList = true ∧ ob⟩
      | .exit i => exec E n hs k (.out (.exit i)) K tm bx ob
      | .ret => exec E n hs k (.out .ret) K tm bx ob
      | c => ⟨.code c, K, tm, bx, ob⟩
    | .out x => match K with
      | [] => ⟨.out x, [], tm, bx, ob⟩
      | .thn d :: K => match x with
        | .normal => exec E n hs k (.code d) K tm bx ob
        | x => exec E n hs k (.out x) K tm bx ob
      | .blk i :: K => match x with
        | .exit j => match Nat.beq j i with
          | true => exec E n hs k (.out .normal) K tm bx ob
          | false => exec E n hs k (.out (.exit j)) K tm bx ob
        | x => exec E n hs k (.out x) K tm bx ob
      | .rnd c :: K => match x with
        | .normal => ⟨.out .normal, .rnd c :: K, tm, bx, ob⟩
        | x => exec E n hs k (.out x) K tm bx ob
    | .ops all l => match exOps E n hs all l tm bx ob [] with
      | ⟨[], tm, bx, ob, _⟩ => exec E n hs k (.out .normal) K tm bx ob
      | ⟨o :: l, tm, bx, ob, _⟩ => ⟨.ops all (o :: l), K, tm, bx, ob⟩
    | .drs all l acc => match exOps E n hs all l tm bx ob acc with
      | ⟨[], tm, bx, ob, acc⟩ => exec E n hs k (.out .normal) K tm bx (apartAll (masks [] all) (revA acc []) 0 (revA acc []) = true ∧ ob)
      | ⟨o :: l, tm, bx, ob, acc⟩ => ⟨.drs all (o :: l) acc, K, tm, bx, ob⟩
theorem thenR_pass {P : Program} {g : Gb} {d : Code} {Φ : Ex → St → Prop} {x : Ex} {s : St} (hx : x ≠ .normal) (h : Φ x s) : thenR P g d Φ x s := by
  cases x <;> first | exact h | exact absurd rfl hx
theorem roundR_pass {P : Program} {g : Gb} {c : Code} {Φ : Ex → St → Prop} {x : Ex} {s : St} (hx : x ≠ .normal) (h : Φ x s) : roundR P g c Φ x s := by
  cases x <;> first | exact h | exact absurd rfl hx
theorem pre_acc {E : Env} {n : Nat} {all l : List Oper} {tm : List (Nat × AV)} {bx : List (Nat × Box)} {hs : List (Nat × Hint E)} {ob : Prop} {acc : List Rec} (hE : E.Ok) {R : OC E} (he : exOps E n hs all l tm bx ob acc = R) (h : R.ob) :
    ob ∧ ∃ rs, Pre E.P E.g all.toArray l ⟨n, tm, bx⟩ rs R.l ⟨n, R.tm, R.bx⟩ ∧ ∀ x, revA R.acc x = revA acc (rs ++ x) := by
  subst he
  exact exOps_ok hE l tm bx ob acc h
theorem exec_ok {E : Env} {n : Nat} {hs : List (Nat × Hint E)} (hE : E.Ok) (hm : E.P.follows .mixedOrders = true) {Φ : Ex → St → Prop} : ∀ (k : Nat) (f : Foc) (K : List Fr) (tm : List (Nat × AV)) (bx : List (Nat × Box)) (ob : Prop) (R : Cf E), exec E n hs k f K tm bx ob = R → R.ob → ob ∧ (R.f.H E n R.K Φ R.tm R.bx → f.H E n K Φ tm bx)
  | 0, f, K, tm, bx, ob, R, h, ho => by subst h; exact ⟨ho, fun k => k⟩
  | k + 1, f, K, tm, bx, ob, R, h, ho => by
    simp only [exec] at h
    split at h
    · rename_i c
      split at h
      · obtain ⟨h1, h2⟩ := exec_ok hE hm k _ _ _ _ _ _ h ho
        exact ⟨h1, fun w => Run.skip (h2 w)⟩
      · obtain ⟨h1, h2⟩ := exec_ok hE hm k _ _ _ _ _ _ h ho
        exact ⟨h1, fun w => Run.seq (h2 w)⟩
      · obtain ⟨h1, h2⟩ := exec_ok hE hm k _ _ _ _ _ _ h ho
        exact ⟨h1, fun w => Run.block (h2 w)⟩
      · split at h
        · rename_i v hv
          have hq : St.ev ⟨n, tm, bx⟩ E.g _ = .pv (.bool v) := evO_ok hv
          split at h
          · obtain ⟨h1, h2⟩ := exec_ok hE hm k _ _ _ _ _ _ h ho
            exact ⟨h1.2, fun w => Run.condT hq h1.1 (h2 w)⟩
          · obtain ⟨h1, h2⟩ := exec_ok hE hm k _ _ _ _ _ _ h ho
            exact ⟨h1.2, fun w => Run.condF hq h1.1 (h2 w)⟩
          · split at h
            · obtain ⟨h1, h2⟩ := exec_ok hE hm k _ _ _ _ _ _ h ho
              exact ⟨h1, fun w => Run.condT hq rfl (h2 w)⟩
            · obtain ⟨h1, h2⟩ := exec_ok hE hm k _ _ _ _ _ _ h ho
              exact ⟨h1, fun w => Run.condF hq rfl (h2 w)⟩
        · subst h
          exact ⟨ho, fun w => w⟩
      · rename_i id ops draw
        split at h
        · split at h
          · rename_i tm' bx' ob' acc' he
            obtain ⟨h1, h2⟩ := exec_ok hE hm k _ _ _ _ _ _ h ho
            obtain ⟨h3, rs, h4, h5⟩ := pre_acc hE he h1
            exact ⟨h3, fun w => Run.region (l := ops.toList) (h4.op (Ops.nil (h2 w)))⟩
          · rename_i o l tm' bx' ob' acc' he
            subst h
            obtain ⟨h3, rs, h4, h5⟩ := pre_acc hE he ho
            exact ⟨h3, fun w => Run.region (l := ops.toList) (h4.op w)⟩
        · split at h
          · rename_i tm' bx' ob' acc' he
            obtain ⟨⟨h0, h1⟩, h2⟩ := exec_ok hE hm k _ _ _ _ _ _ h ho
            obtain ⟨h3, rs, h4, h5⟩ := pre_acc hE he h1
            rw [Bool.and_eq_true] at h0
            refine ⟨h3, fun w => Run.draw (l := ops.toList) hm h0.1 (h4.dr (Dr.nil ⟨?_, h2 w⟩))⟩
            have h6 := h5 []
            dsimp only at h6
            have h7 := h0.2
            rw [h6] at h7
            exact h7
          · rename_i o l tm' bx' ob' acc' he
            subst h
            obtain ⟨h0, h1⟩ := ho
            obtain ⟨h3, rs, h4, h5⟩ := pre_acc hE he h1
            refine ⟨h3, fun w => Run.draw (l := ops.toList) hm h0 (h4.dr ?_)⟩
            have e : (fun (qs : List Rec) (s : St) => apartAll (masks [] ops.toList) (rs ++ qs) 0 (rs ++ qs) = true ∧ unw E.P E.g K Φ .normal s) = fun qs s => apartAll (masks [] ops.toList) (revA acc' qs) 0 (revA acc' qs) = true ∧ unw E.P E.g K Φ .normal s := by
              funext qs s
              have := h5 qs
              dsimp only at this
              rw [this]
              rfl
            rw [e]
            exact w
      · obtain ⟨h1, h2⟩ := exec_ok hE hm k _ _ _ _ _ _ h ho
        exact ⟨h1, fun w => Run.exit (h2 w)⟩
      · obtain ⟨h1, h2⟩ := exec_ok hE hm k _ _ _ _ _ _ h ho
        exact ⟨h1, fun w => Run.ret (h2 w)⟩
      · subst h
        exact ⟨ho, fun w => w⟩
    · rename_i x
      split at h
      · subst h
        exact ⟨ho, fun w => w⟩
      · split at h
        · obtain ⟨h1, h2⟩ := exec_ok hE hm k _ _ _ _ _ _ h ho
          exact ⟨h1, fun w => h2 w⟩
        · rename_i hx
          obtain ⟨h1, h2⟩ := exec_ok hE hm k _ _ _ _ _ _ h ho
          exact ⟨h1, fun w => thenR_pass hx (h2 w)⟩
      · split at h
        · split at h
          · rename_i hj
            obtain rfl := Nat.eq_of_beq_eq_true hj
            obtain ⟨h1, h2⟩ := exec_ok hE hm k _ _ _ _ _ _ h ho
            exact ⟨h1, fun w => blockR_exit (h2 w)⟩
          · rename_i hj
            obtain ⟨h1, h2⟩ := exec_ok hE hm k _ _ _ _ _ _ h ho
            exact ⟨h1, fun w => blockR_pass hj (h2 w)⟩
        · rename_i hx
          obtain ⟨h1, h2⟩ := exec_ok hE hm k _ _ _ _ _ _ h ho
          refine ⟨h1, fun w => ?_⟩
          have h3 := h2 w
          cases x with
          | exit j => exact absurd rfl (hx j)
          | normal => exact h3
          | ret => exact h3
          | goto l => exact h3
      · split at h
        · subst h
          exact ⟨ho, fun w => w⟩
        · rename_i hx
          obtain ⟨h1, h2⟩ := exec_ok hE hm k _ _ _ _ _ _ h ho
          exact ⟨h1, fun w => roundR_pass hx (h2 w)⟩
    · rename_i all l
      split at h
      · rename_i tm' bx' ob' acc' he
        obtain ⟨h1, h2⟩ := exec_ok hE hm k _ _ _ _ _ _ h ho
        obtain ⟨h3, rs, h4, h5⟩ := pre_acc hE he h1
        exact ⟨h3, fun w => h4.op (Ops.nil (h2 w))⟩
      · rename_i o l' tm' bx' ob' acc' he
        subst h
        obtain ⟨h3, rs, h4, h5⟩ := pre_acc hE he ho
        exact ⟨h3, fun w => h4.op w⟩
    · rename_i all l acc
      split at h
      · rename_i tm' bx' ob' acc' he
        obtain ⟨⟨h0, h1⟩, h2⟩ := exec_ok hE hm k _ _ _ _ _ _ h ho
        obtain ⟨h3, rs, h4, h5⟩ := pre_acc hE he h1
        refine ⟨h3, fun w => h4.dr (Dr.nil ⟨?_, h2 w⟩)⟩
        have h6 := h5 []
        dsimp only at h6
        rw [h6] at h0
        exact h0
      · rename_i o l' tm' bx' ob' acc' he
        subst h
        obtain ⟨h3, rs, h4, h5⟩ := pre_acc hE he ho
        refine ⟨h3, fun w => h4.dr ?_⟩
        have e : (fun (qs : List Rec) (s : St) => apartAll (masks [] all) (revA acc (rs ++ qs)) 0 (revA acc (rs ++ qs)) = true ∧ unw E.P E.g K Φ .normal s) = fun qs s => apartAll (masks [] all) (revA acc' qs) 0 (revA acc' qs) = true ∧ unw E.P E.g K Φ .normal s := by
          funext qs s
          have := h5 qs
          dsimp only at this
          rw [this]
        rw [e]
        exact w
end Go.Proofs.YtlcmnhocicehmaaDoor.Vm
end
section
namespace Go.Proofs.YtlcmnhocicehmaaDoor.Vm
open Go Go.RowKit
set_option linter.unusedVariables false
set_option linter.unusedSimpArgs false
def endX : Ex → Bool
  | .normal | .ret => true
  | _ => false
theorem endX_ok {x : Ex} (h : endX x = true) : x = .normal ∨ x = .ret := by
  cases x with
  | normal => exact .inl rfl
  | ret => exact .inr rfl
  | exit i => cases h
  | goto i => cases h
theorem AVles.of_eq {s : St} : ∀ {xs ys : List AV}, xs = ys → AVles s xs ys
  | [], _, rfl => .nil
  | x :: xs, _, rfl => .cons (.refl x) (AVles.of_eq rfl)
/-- The boxes but some. -/
def sansO (seen : List Nat) : List (Nat × Box) → Option (List (Nat × Box))
  | [] => some []
  | (b, B) :: l => match memN b seen with
    | true => sansO seen l
    | false => match sansO (b :: seen) l with
      | some r => some ((b, B) :: r)
      | none => none
/-- What is held that names no other boxes. -/
def pickO (bx : List (Nat × Box)) (seen : List Nat) : List (Nat × AV) → Option (List (Nat × AV))
  | [] => some []
  | (k, x) :: l => match memN k seen with
    | true => pickO bx seen l
    | false => match men3 bx x with
      | true => match pickO bx (k :: seen) l with
        | some r => some ((k, x) :: r)
        | none => none
      | false => pickO bx (k :: seen) l
theorem memN_cons {k c : Nat} {l : List Nat} (h : memN k (c :: l) = false) : ¬ c = k ∧ memN k l = false := by
  simp only [memN, Bool.or_eq_false_iff] at h
  exact ⟨fun e => by (subst e; rw [Nat.beq_refl] at h; exact Bool.noConfusion h.1), h.2⟩
theorem sansO_ok {bx : List (Nat × Box)} : ∀ (l : List (Nat × Box)) (seen : List Nat) (bx' : List (Nat × Box)), sansO seen l = some bx' → (∀ k, memN k seen = false → look l k = look bx k) → BxIn bx bx'
  | [], seen, bx', h, _ => by obtain rfl := Option.some.inj h; exact .nil
  | (b, B) :: l, seen, bx', h, hk => by
    simp only [sansO] at h
    split at h
    · rename_i hm
      refine sansO_ok l seen bx' h fun k h1 => ?_
      rw [← hk k h1, look_cons, if_neg (fun e => by subst e; rw [hm] at h1; cases h1)]
    · rename_i hm
      split at h
      · rename_i r hr
        obtain rfl := Option.some.inj h
        refine .cons (by rw [← hk b hm, look_cons, if_pos rfl]) (sansO_ok l _ r hr fun k h1 => ?_)
        obtain ⟨h2, h3⟩ := memN_cons h1
        rw [← hk k h3, look_cons, if_neg h2]
      · cases h
theorem pickO_ok {bx : List (Nat × Box)} {tm : List (Nat × AV)} : ∀ (l : List (Nat × AV)) (seen : List Nat) (tm' : List (Nat × AV)), pickO bx seen l = some tm' → (∀ k, memN k seen = false → look l k = look tm k) → TmIn tm tm' ∧ mtm bx tm' = true
  | [], seen, tm', h, _ => by obtain rfl := Option.some.inj h; exact ⟨.nil, rfl⟩
  | (b, B) :: l, seen, tm', h, hk => by
    simp only [pickO] at h
    split at h
    · rename_i hm
      refine pickO_ok l seen tm' h fun k h1 => ?_
      rw [← hk k h1, look_cons, if_neg (fun e => by subst e; rw [hm] at h1; cases h1)]
    · rename_i hm
      have step : ∀ k, memN k (b :: seen) = false → look l k = look tm k := fun k h1 => by
        obtain ⟨h2, h3⟩ := memN_cons h1
        rw [← hk k h3, look_cons, if_neg h2]
      split at h
      · rename_i hx
        split at h
        · rename_i r hr
          obtain rfl := Option.some.inj h
          obtain ⟨e1, e2⟩ := pickO_ok l _ r hr step
          refine ⟨.cons (by rw [← hk b hm, look_cons, if_pos rfl]) e1, ?_⟩
          simp only [mtm, hx, e2, Bool.and_self]
        · cases h
      · exact pickO_ok l _ tm' h step
theorem sansO_in (bx : List (Nat × Box)) (bs : List Nat) (bx' : List (Nat × Box)) (h : sansO bs bx = some bx') : BxIn bx bx' := sansO_ok bx bs bx' h (fun _ _ => rfl)
section
variable {E : Env} {n : Nat} {tm tm' : List (Nat × AV)} {bx bx' : List (Nat × Box)} {K K' : List Fr} {Φ : Ex → St → Prop} {ob : Prop}
/-- A function whose way is walked to its end. -/
theorem FnC.go {f : FuncId} {fn : Func} {c : Code} {args : List AV} {r y : AV} {tm0 : List (Nat × AV)} {x : Ex} {ys : List AV} (hE : E.Ok) (hm : E.P.follows .mixedOrders = true) (hf : E.P.funcs[f]? = some fn) (hs : List (Nat × Hint E)) (hc : fn.body = some c := by rfl) (hname : (fn.name == "runtime.NumGoroutine") = false := by rfl) (hn : Nat.ble args.length fn.ntmps = true := by rfl) (htm : params 0 args = tm0 := by rfl)
    (hx : exec E fn.ntmps hs 100000 (.code c) [] tm0 [] True = ⟨.out x, [], tm', bx', ob⟩ := by rfl)
    (hob : ob := by (repeat' (first | exact trivial | refine And.intro ?_ ?_)) <;> first | omega | rfl | (simp only [List.length_map, List.length_append, List.length_cons, List.length_nil, maxLen] at *; omega) | assumption | exact AVles.of_eq rfl | ((repeat (first | exact AVles.nil | refine AVles.cons (AVle.of_eq rfl) ?_ | refine AVles.cons (AVle.lst _ _ _ rfl) ?_ | refine AVles.cons (AVle.nil _) ?_ | refine AVles.cons (AVle.any _) ?_ | refine AVles.cons (AVle.aggs ?_) ?_)); done) | (simp [closed, men3, mens2_app, mens2_ints, mens2_pvs, mens2, men2, men1, mens1_app, mens1_ints, mens1_pvs, mens1, d2, ds1_ints, ds1_app, ds1_pvs, ds1, d1, ds0_app, ds0_ints, ds0_pvs, ds0, d0]; done) | kernel_rfl) (hxx : endX x = true := by rfl) (hy : ressO E tm' bx' fn.results.toList = some ys := by rfl) (h1 : oneO ys = some y := by rfl)
    (hle : AVle ⟨1, [(0, y)], bx'⟩ y r := by first | exact AVle.of_eq rfl | exact AVle.nil _ | (repeat (first | refine AVle.aggs ?_ | refine AVle.tups ?_ | exact AVles.nil | refine AVles.cons (AVle.of_eq rfl) ?_ | refine AVles.cons (AVle.nil _) ?_ | refine AVles.cons (AVle.lst _ _ _ rfl) ?_ | refine AVles.cons ?_ ?_))) (hr : men3 [] r = true := by rfl) (hln : E.g.ln = [] := by rfl) : FnC E f args r [] :=
  FnC.of hf hc hname hn htm ((exec_ok hE hm _ _ _ _ _ _ _ hx hob).2 (Ends.flat hE (endX_ok hxx) hy h1 hle hr)) hln
/-- A function whose walk is to be shown part by part. -/
theorem FnC.by {f : FuncId} {fn : Func} {c : Code} {args : List AV} {r : AV} {bs : List (Nat × Box)} {tm0 : List (Nat × AV)} (hf : E.P.funcs[f]? = some fn) (h : Run E.P E.g c ⟨fn.ntmps, tm0, []⟩ (unw E.P E.g [] (Ends E.P fn r bs))) (hc : fn.body = some c := by rfl) (hname : (fn.name == "runtime.NumGoroutine") = false := by rfl) (hn : Nat.ble args.length fn.ntmps = true := by rfl) (htm : params 0 args = tm0 := by rfl) (hln : E.g.ln = [] := by rfl) : FnC E f args r bs :=
  FnC.of hf hc hname hn htm h hln
/-- A function whose way is walked to its first loop. -/
theorem FnC.at {f : FuncId} {fn : Func} {c c' : Code} {args : List AV} {r : AV} {bs : List (Nat × Box)} {tm0 : List (Nat × AV)} (hE : E.Ok) (hm : E.P.follows .mixedOrders = true) (hf : E.P.funcs[f]? = some fn) (hs : List (Nat × Hint E)) (k : Run E.P E.g c' ⟨fn.ntmps, tm', bx'⟩ (unw E.P E.g K' (Ends E.P fn r bs))) (hc : fn.body = some c := by rfl) (hname : (fn.name == "runtime.NumGoroutine") = false := by rfl) (hn : Nat.ble args.length fn.ntmps = true := by rfl) (htm : params 0 args = tm0 := by rfl)
    (hx : exec E fn.ntmps hs 100000 (.code c) [] tm0 [] True = ⟨.code c', K', tm', bx', ob⟩ := by rfl) (hob : ob := by (repeat' (first | exact trivial | refine And.intro ?_ ?_)) <;> first | omega | rfl | (simp only [List.length_map, List.length_append, List.length_cons, List.length_nil, maxLen] at *; omega) | assumption | exact AVles.of_eq rfl | ((repeat (first | exact AVles.nil | refine AVles.cons (AVle.of_eq rfl) ?_ | refine AVles.cons (AVle.lst _ _ _ rfl) ?_ | refine AVles.cons (AVle.nil _) ?_ | refine AVles.cons (AVle.any _) ?_ | refine AVles.cons (AVle.aggs ?_) ?_)); done) | (simp [closed, men3, mens2_app, mens2_ints, mens2_pvs, mens2, men2, men1, mens1_app, mens1_ints, mens1_pvs, mens1, d2, ds1_ints, ds1_app, ds1_pvs, ds1, d1, ds0_app, ds0_ints, ds0_pvs, ds0, d0]; done) | kernel_rfl) (hln : E.g.ln = [] := by rfl) : FnC E f args r bs :=
  FnC.of hf hc hname hn htm ((exec_ok hE hm _ _ _ _ _ _ _ hx hob).2 k) hln
/-- A function to which boxes are lent. -/
theorem FnL.by {f : FuncId} {fn : Func} {c : Code} {args : List AV} {bi bo : List (Nat × Box)} {r : AV} {tm0 : List (Nat × AV)} (hf : E.P.funcs[f]? = some fn) (h : Run E.P E.g c ⟨fn.ntmps, tm0, bi⟩ (unw E.P E.g [] (Ends E.P fn r bo))) (hc : fn.body = some c := by rfl) (hname : (fn.name == "runtime.NumGoroutine") = false := by rfl) (hn : Nat.ble args.length fn.ntmps = true := by rfl) (htm : params 0 args = tm0 := by rfl) : FnL E f args bi r bo :=
  FnL.of hf hc hname hn htm h
/-- A function of which some result is told. -/
theorem FnL.ex {f : FuncId} {fn : Func} {c : Code} {args : List AV} {bi : List (Nat × Box)} {tm0 : List (Nat × AV)} {Q : AV → List (Nat × Box) → Prop} (hf : E.P.funcs[f]? = some fn) (h : Run E.P E.g c ⟨fn.ntmps, tm0, bi⟩ (unw E.P E.g [] (fun x s => ∃ r bo, Q r bo ∧ Ends E.P fn r bo x s))) (hc : fn.body = some c := by rfl) (hname : (fn.name == "runtime.NumGoroutine") = false := by rfl) (hn : Nat.ble args.length fn.ntmps = true := by rfl) (htm : params 0 args = tm0 := by rfl) : ∃ r bo, Q r bo ∧ FnL E f args bi r bo := by
  obtain ⟨x, s', h1, r, bo, hq, he⟩ := h
  exact ⟨r, bo, hq, FnL.of hf hc hname hn htm ⟨x, s', h1, he⟩⟩
theorem FnC.ex {f : FuncId} {fn : Func} {c : Code} {args : List AV} {tm0 : List (Nat × AV)} {Q : AV → List (Nat × Box) → Prop} (hf : E.P.funcs[f]? = some fn) (h : Run E.P E.g c ⟨fn.ntmps, tm0, []⟩ (unw E.P E.g [] (fun x s => ∃ r bo, Q r bo ∧ Ends E.P fn r bo x s))) (hc : fn.body = some c := by rfl) (hname : (fn.name == "runtime.NumGoroutine") = false := by rfl) (hn : Nat.ble args.length fn.ntmps = true := by rfl) (htm : params 0 args = tm0 := by rfl) (hln : E.g.ln = [] := by rfl) : ∃ r bo, Q r bo ∧ FnC E f args r bo := by
  obtain ⟨x, s', h1, r, bo, hq, he⟩ := h
  exact ⟨r, bo, hq, FnC.of hf hc hname hn htm ⟨x, s', h1, he⟩ hln⟩
/-- The end of a function, with boxes. -/
theorem End.of {fn : Func} {r y : AV} {bo : List (Nat × Box)} {x : Ex} {ys : List AV} (hE : E.Ok) (hle : SLe ⟨1, [(0, y)], bx⟩ ⟨1, [(0, r)], bo⟩) (hxx : endX x = true := by rfl) (hy : ressO E tm bx fn.results.toList = some ys := by rfl) (h1 : oneO ys = some y := by rfl) : unw E.P E.g [] (Ends E.P fn r bo) x ⟨n, tm, bx⟩ :=
  Ends.of hE (endX_ok hxx) hy h1 hle
theorem End.ex {Q : AV → List (Nat × Box) → Prop} {fn : Func} {r : AV} {bo : List (Nat × Box)} {x : Ex} {s : St} (hq : Q r bo) (h : unw E.P E.g [] (Ends E.P fn r bo) x s) : unw E.P E.g [] (fun x s => ∃ r bo, Q r bo ∧ Ends E.P fn r bo x s) x s := ⟨r, bo, hq, h⟩
/-- A walk as far as it comes: to code that is no region. -/
theorem Run.at {c c' : Code} (hE : E.Ok) (hm : E.P.follows .mixedOrders = true) (hs : List (Nat × Hint E)) (k : Run E.P E.g c' ⟨n, tm', bx'⟩ (unw E.P E.g K' Φ)) (hx : exec E n hs 100000 (.code c) K tm bx True = ⟨.code c', K', tm', bx', ob⟩ := by rfl) (hob : ob := by (repeat' (first | exact trivial | refine And.intro ?_ ?_)) <;> first | omega | rfl | (simp only [List.length_map, List.length_append, List.length_cons, List.length_nil, maxLen] at *; omega) | assumption | exact AVles.of_eq rfl | ((repeat (first | exact AVles.nil | refine AVles.cons (AVle.of_eq rfl) ?_ | refine AVles.cons (AVle.lst _ _ _ rfl) ?_ | refine AVles.cons (AVle.nil _) ?_ | refine AVles.cons (AVle.any _) ?_ | refine AVles.cons (AVle.aggs ?_) ?_)); done) | (simp [closed, men3, mens2_app, mens2_ints, mens2_pvs, mens2, men2, men1, mens1_app, mens1_ints, mens1_pvs, mens1, d2, ds1_ints, ds1_app, ds1_pvs, ds1, d1, ds0_app, ds0_ints, ds0_pvs, ds0, d0]; done) | kernel_rfl) : Run E.P E.g c ⟨n, tm, bx⟩ (unw E.P E.g K Φ) :=
  (exec_ok hE hm _ _ _ _ _ _ _ hx hob).2 k
/-- A walk to the end. -/
theorem Run.end {c : Code} {x : Ex} (hE : E.Ok) (hm : E.P.follows .mixedOrders = true) (hs : List (Nat × Hint E)) (k : unw E.P E.g K' Φ x ⟨n, tm', bx'⟩) (hx : exec E n hs 100000 (.code c) K tm bx True = ⟨.out x, K', tm', bx', ob⟩ := by rfl) (hob : ob := by (repeat' (first | exact trivial | refine And.intro ?_ ?_)) <;> first | omega | rfl | (simp only [List.length_map, List.length_append, List.length_cons, List.length_nil, maxLen] at *; omega) | assumption | exact AVles.of_eq rfl | ((repeat (first | exact AVles.nil | refine AVles.cons (AVle.of_eq rfl) ?_ | refine AVles.cons (AVle.lst _ _ _ rfl) ?_ | refine AVles.cons (AVle.nil _) ?_ | refine AVles.cons (AVle.any _) ?_ | refine AVles.cons (AVle.aggs ?_) ?_)); done) | (simp [closed, men3, mens2_app, mens2_ints, mens2_pvs, mens2, men2, men1, mens1_app, mens1_ints, mens1_pvs, mens1, d2, ds1_ints, ds1_app, ds1_pvs, ds1, d1, ds0_app, ds0_ints, ds0_pvs, ds0, d0]; done) | kernel_rfl) : Run E.P E.g c ⟨n, tm, bx⟩ (unw E.P E.g K Φ) :=
  (exec_ok hE hm _ _ _ _ _ _ _ hx hob).2 k
/-- The end of a function. -/
theorem End.go {fn : Func} {r y : AV} {x : Ex} {ys : List AV} (hE : E.Ok) (hxx : endX x = true := by rfl) (hy : ressO E tm bx fn.results.toList = some ys := by rfl) (h1 : oneO ys = some y := by rfl)
    (hle : AVle ⟨1, [(0, y)], bx⟩ y r := by first | exact AVle.of_eq rfl | exact AVle.nil _ | (repeat (first | refine AVle.aggs ?_ | refine AVle.tups ?_ | exact AVles.nil | refine AVles.cons (AVle.of_eq rfl) ?_ | refine AVles.cons (AVle.nil _) ?_ | refine AVles.cons (AVle.lst _ _ _ rfl) ?_ | refine AVles.cons ?_ ?_))) (hr : men3 [] r = true := by rfl) : unw E.P E.g [] (Ends E.P fn r []) x ⟨n, tm, bx⟩ :=
  Ends.flat hE (endX_ok hxx) hy h1 hle hr
/-- A state that says less. -/
theorem SLe.to (ht : TmIn tm tm' := by (repeat (first | exact TmIn.nil | refine TmIn.cons rfl ?_))) (hb : BxIn bx bx' := by (repeat (first | exact BxIn.nil | refine BxIn.cons rfl ?_))) (hm : mtm bx' tm' = true := by rfl) (hmb : mbx bx' bx' = true := by rfl) : SLe ⟨n, tm, bx⟩ ⟨n, tm', bx'⟩ := SLe.drop ht hb hm hmb
/-- One turn of a loop. -/
theorem Run.turn {c : Code} {s : St} (h : Run E.P E.g c s (unw E.P E.g (.rnd c :: K) Φ)) : Run E.P E.g (.loop c) s (unw E.P E.g K Φ) := LoopR.run (LoopR.step h)
theorem Round.turn {c : Code} {s : St} (h : Run E.P E.g c s (unw E.P E.g (.rnd c :: K) Φ)) : unw E.P E.g (.rnd c :: K) Φ .normal s := LoopR.step h
/-- A further turn, some boxes forgotten. -/
theorem Round.but {c : Code} (bs : List Nat) (hb : sansO bs bx = some bx') (ht : pickO bx' [] tm = some tm') (hmb : mbx bx' bx' = true) (h : Run E.P E.g c ⟨n, tm', bx'⟩ (unw E.P E.g (.rnd c :: K) Φ)) : unw E.P E.g (.rnd c :: K) Φ .normal ⟨n, tm, bx⟩ := by
  obtain ⟨t1, t2⟩ := pickO_ok (tm := tm) tm [] tm' ht (fun _ _ => rfl)
  exact LoopR.step (Run.pre (SLe.drop t1 (sansO_in bx bs bx' hb) t2 hmb) h)
/-- A loop by an invariant. -/
theorem Run.inv {c : Code} {s : St} {ι : Type} (Inv : ι → Prop) (S : ι → St) (μ : ι → Nat) (i : ι) (h0 : Inv i) (hs : SLe s (S i))
    (round : ∀ i, Inv i → (∀ j s', SLe s' (S j) → Inv j → μ j < μ i → unw E.P E.g (.rnd c :: K) Φ .normal s') → Run E.P E.g c (S i) (unw E.P E.g (.rnd c :: K) Φ)) : Run E.P E.g (.loop c) s (unw E.P E.g K Φ) :=
  Run.loopInv Inv S μ i h0 hs round
/-- A function to which boxes are lent, whose way is walked to its end. -/
theorem FnL.go {f : FuncId} {fn : Func} {c : Code} {args : List AV} {bi bo : List (Nat × Box)} {r y : AV} {tm0 : List (Nat × AV)} {x : Ex} {ys : List AV} (hE : E.Ok) (hm : E.P.follows .mixedOrders = true) (hf : E.P.funcs[f]? = some fn) (hs : List (Nat × Hint E)) (hc : fn.body = some c := by rfl) (hname : (fn.name == "runtime.NumGoroutine") = false := by rfl) (hn : Nat.ble args.length fn.ntmps = true := by rfl) (htm : params 0 args = tm0 := by rfl)
    (hx : exec E fn.ntmps hs 100000 (.code c) [] tm0 bi True = ⟨.out x, [], tm', bx', ob⟩ := by rfl)
    (hob : ob := by (repeat' (first | exact trivial | refine And.intro ?_ ?_)) <;> first | omega | rfl | (simp only [List.length_map, List.length_append, List.length_cons, List.length_nil, maxLen] at *; omega) | assumption | exact AVles.of_eq rfl | ((repeat (first | exact AVles.nil | refine AVles.cons (AVle.of_eq rfl) ?_ | refine AVles.cons (AVle.lst _ _ _ rfl) ?_ | refine AVles.cons (AVle.nil _) ?_ | refine AVles.cons (AVle.any _) ?_ | refine AVles.cons (AVle.aggs ?_) ?_)); done) | (simp [closed, men3, mens2_app, mens2_ints, mens2_pvs, mens2, men2, men1, mens1_app, mens1_ints, mens1_pvs, mens1, d2, ds1_ints, ds1_app, ds1_pvs, ds1, d1, ds0_app, ds0_ints, ds0_pvs, ds0, d0]; done) | kernel_rfl) (hxx : endX x = true := by rfl) (hy : ressO E tm' bx' fn.results.toList = some ys := by rfl) (h1 : oneO ys = some y := by rfl)
    (hle : SLe ⟨1, [(0, y)], bx'⟩ ⟨1, [(0, r)], bo⟩ := by first | exact SLe.to | (refine SLe.by rfl ?_ ?_ rfl rfl <;> repeat (first | exact TmLe.nil | exact BxsLe.nil | refine TmLe.cons (AVle.of_eq rfl) ?_ | refine TmLe.cons (AVle.lst _ _ _ rfl) ?_ | refine TmLe.cons (AVle.aggs (by repeat (first | exact AVles.nil | refine AVles.cons (AVle.of_eq rfl) ?_ | refine AVles.cons (AVle.nil _) ?_ | refine AVles.cons (AVle.lst _ _ _ rfl) ?_))) ?_ | refine BxsLe.cons rfl (.refl _) ?_))) : FnL E f args bi r bo :=
  FnL.of hf hc hname hn htm ((exec_ok hE hm _ _ _ _ _ _ _ hx hob).2 (Ends.of hE (endX_ok hxx) hy h1 hle))
/-- A function to which boxes are lent, walked to its first loop. -/
theorem FnL.at {f : FuncId} {fn : Func} {c c' : Code} {args : List AV} {bi bo : List (Nat × Box)} {r : AV} {tm0 : List (Nat × AV)} (hE : E.Ok) (hm : E.P.follows .mixedOrders = true) (hf : E.P.funcs[f]? = some fn) (hs : List (Nat × Hint E)) (k : Run E.P E.g c' ⟨fn.ntmps, tm', bx'⟩ (unw E.P E.g K' (Ends E.P fn r bo))) (hc : fn.body = some c := by rfl) (hname : (fn.name == "runtime.NumGoroutine") = false := by rfl) (hn : Nat.ble args.length fn.ntmps = true := by rfl) (htm : params 0 args = tm0 := by rfl)
    (hx : exec E fn.ntmps hs 100000 (.code c) [] tm0 bi True = ⟨.code c', K', tm', bx', ob⟩ := by rfl) (hob : ob := by (repeat' (first | exact trivial | refine And.intro ?_ ?_)) <;> first | omega | rfl | (simp only [List.length_map, List.length_append, List.length_cons, List.length_nil, maxLen] at *; omega) | assumption | exact AVles.of_eq rfl | ((repeat (first | exact AVles.nil | refine AVles.cons (AVle.of_eq rfl) ?_ | refine AVles.cons (AVle.lst _ _ _ rfl) ?_ | refine AVles.cons (AVle.nil _) ?_ | refine AVles.cons (AVle.any _) ?_ | refine AVles.cons (AVle.aggs ?_) ?_)); done) | (simp [closed, men3, mens2_app, mens2_ints, mens2_pvs, mens2, men2, men1, mens1_app, mens1_ints, mens1_pvs, mens1, d2, ds1_ints, ds1_app, ds1_pvs, ds1, d1, ds0_app, ds0_ints, ds0_pvs, ds0, d0]; done) | kernel_rfl) : FnL E f args bi r bo :=
  FnL.of hf hc hname hn htm ((exec_ok hE hm _ _ _ _ _ _ _ hx hob).2 k)
end
end Go.Proofs.YtlcmnhocicehmaaDoor.Vm
end
