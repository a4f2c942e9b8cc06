/- The value machine, eighth part: code run state by state. Conditions: none. -/
import Derived.Test.YtcbdhdblchmofaaDoorVmG
namespace Go.Proofs.YtcbdhdblchmofaaDoor.Vm
open Go Go.RowKit
set_option linter.unusedVariables false
set_option linter.unusedSimpArgs false

/-- The code comes from this state to an end of which Φ holds. -/
def Run (P : Program) (g : Nat → Option (List PV)) (c : Code) (s : St) (Φ : Ex → St → Prop) : Prop := ∃ x s', Runs P g c s x s' ∧ Φ x s'
def Ops (P : Program) (g : Nat → Option (List PV)) (ops : Array Oper) (l : List Oper) (s : St) (Φ : St → Prop) : Prop := ∃ s', RunsOps P g ops l s s' ∧ Φ s'
def thenR (P : Program) (g : Nat → Option (List PV)) (d : Code) (Φ : Ex → St → Prop) : Ex → St → Prop
  | .normal, s => Run P g d s Φ
  | x, s => Φ x s
def blockR (id : Nat) (Φ : Ex → St → Prop) : Ex → St → Prop
  | .exit i, s => if i = id then Φ .normal s else Φ (.exit i) s
  | x, s => Φ x s
section
variable {P : Program} {g : Nat → Option (List PV)} {s s1 s' : St} {Φ Ψ : Ex → St → Prop}
theorem Run.mono {c : Code} (h : Run P g c s Φ) (hm : ∀ x s', Φ x s' → Ψ x s') : Run P g c s Ψ := let ⟨x, s', h1, h2⟩ := h; ⟨x, s', h1, hm x s' h2⟩
theorem Run.skip (h : Φ .normal s) : Run P g .skip s Φ := ⟨_, _, .skip, h⟩
theorem Run.ret (h : Φ .ret s) : Run P g .ret s Φ := ⟨_, _, .ret, h⟩
theorem Run.exit {id : Nat} (h : Φ (.exit id) s) : Run P g (.exit id) s Φ := ⟨_, _, .exit id, h⟩
theorem Run.seq {c d : Code} (h : Run P g c s (thenR P g d Φ)) : Run P g (.seq c d) s Φ := by
  obtain ⟨x, s1, h1, h2⟩ := h
  cases x with
  | normal => obtain ⟨x, s', h3, h4⟩ := h2; exact ⟨x, s', .seq h1 h3, h4⟩
  | exit id => exact ⟨_, s1, .seqOut h1 (by simp), h2⟩
  | ret => exact ⟨_, s1, .seqOut h1 (by simp), h2⟩
theorem Run.block {id : Nat} {c : Code} (h : Run P g c s (blockR id Φ)) : Run P g (.block id c) s Φ := by
  obtain ⟨x, s1, h1, h2⟩ := h
  cases x with
  | normal => exact ⟨_, s1, .block h1, h2⟩
  | exit i =>
    by_cases e : i = id
    · subst e
      simp only [blockR, if_true] at h2
      exact ⟨_, s1, .blockOf h1, h2⟩
    · simp only [blockR, if_neg e] at h2
      exact ⟨_, s1, .blockOut h1 (by simp) (by simpa using e), h2⟩
  | ret => exact ⟨_, s1, .blockOut h1 (by simp) (by simp), h2⟩
theorem Run.region {id : Nat} {l : List Oper} (h : Ops P g l.toArray l s (fun s1 => Φ .normal s1)) : Run P g (.region id l.toArray false) s Φ :=
  let ⟨s1, h1, h2⟩ := h; ⟨_, s1, .region h1, h2⟩
theorem Run.condT {q : Operand} {c d : Code} {b : Bool} (hq : s.ev g q = .pv (.bool b)) (hb : b = true) (h : Run P g c s Φ) : Run P g (.cond q c d) s Φ :=
  let ⟨x, s', h1, h2⟩ := h; ⟨x, s', .condT hq hb h1, h2⟩
theorem Run.condF {q : Operand} {c d : Code} {b : Bool} (hq : s.ev g q = .pv (.bool b)) (hb : b = false) (h : Run P g d s Φ) : Run P g (.cond q c d) s Φ :=
  let ⟨x, s', h1, h2⟩ := h; ⟨x, s', .condF hq hb h1, h2⟩
theorem Run.cond {q : Operand} {c d : Code} {b : Bool} (hq : s.ev g q = .pv (.bool b)) (h1 : b = true → Run P g c s Φ) (h2 : b = false → Run P g d s Φ) : Run P g (.cond q c d) s Φ := by
  cases b with
  | true => exact .condT hq rfl (h1 rfl)
  | false => exact .condF hq rfl (h2 rfl)
theorem Run.pre {c : Code} (h : SLe s s1) (h1 : Run P g c s1 Φ) : Run P g c s Φ := let ⟨x, s', h1, h2⟩ := h1; ⟨x, s', .pre h h1, h2⟩
theorem Ops.nil {ops : Array Oper} {Θ : St → Prop} (h : Θ s) : Ops P g ops [] s Θ := ⟨s, .nil, h⟩
theorem Ops.op {ops : Array Oper} {o : Oper} {l : List Oper} {Θ : St → Prop} (hgd : o.guard = none) (h1 : OpOk P g o s s1) (h2 : Ops P g ops l s1 Θ) : Ops P g ops (o :: l) s Θ := let ⟨s', h3, h4⟩ := h2; ⟨s', .op hgd h1 h3, h4⟩
theorem Ops.yes {ops : Array Oper} {o : Oper} {l : List Oper} {Θ : St → Prop} {j t : Nat} {b want : Bool} (hgd : o.guard = some (j, want)) (hj : (ops[j]?).bind (·.dst) = some t) (ht : s.get t = .pv (.bool b)) (hb : b = want) (h1 : OpOk P g o s s1) (h2 : Ops P g ops l s1 Θ) : Ops P g ops (o :: l) s Θ :=
  let ⟨s', h3, h4⟩ := h2; ⟨s', .guardYes hgd hj ht hb h1 h3, h4⟩
theorem Ops.no {ops : Array Oper} {o : Oper} {l : List Oper} {Θ : St → Prop} {j t : Nat} {want : Bool} {x : AV} (hgd : o.guard = some (j, want)) (hj : (ops[j]?).bind (·.dst) = some t) (ht : s.get t = x) (hb : offB want x = true) (hd : dstOk o.dst s.n = true) (h2 : Ops P g ops l (s.putO o.dst (.tup [])) Θ) : Ops P g ops (o :: l) s Θ :=
  let ⟨s', h3, h4⟩ := h2; ⟨s', .guardNo hgd hj ht hb (dlt hd) h3, h4⟩
theorem Ops.pre {ops : Array Oper} {l : List Oper} {Θ : St → Prop} (h : SLe s s1) (h2 : Ops P g ops l s1 Θ) : Ops P g ops l s Θ := let ⟨s', h3, h4⟩ := h2; ⟨s', .pre h h3, h4⟩
/-- A loop: each round begins in a state of this family, at a smaller number, or ends it. -/
theorem Run.loop {c : Code} {ι : Type} (S : ι → St) (μ : ι → Nat) (round : ∀ i, (∃ s1 j, Runs P g c (S i) .normal s1 ∧ μ j < μ i ∧ SLe s1 (S j)) ∨ Run P g c (S i) (fun x s' => x ≠ .normal ∧ Φ x s')) (i : ι) : Run P g (.loop c) (S i) Φ := by
  have key : ∀ n i, μ i = n → ∃ x s', Loops P g c (S i) x s' ∧ Φ x s' := by
    intro n
    induction n using Nat.strongRecOn with
    | _ n ih =>
      intro i hi
      rcases round i with ⟨s1, j, h1, h2, h3⟩ | ⟨x, s', h1, h2, h3⟩
      · obtain ⟨x, s', h4, h5⟩ := ih (μ j) (hi ▸ h2) j rfl
        exact ⟨x, s', .step h1 (.pre h3 h4), h5⟩
      · exact ⟨x, s', .out h1 h2, h3⟩
  obtain ⟨x, s', h1, h2⟩ := key _ i rfl
  exact ⟨x, s', .loop h1, h2⟩
/-- One round of a loop and the loop again. -/
theorem Run.round {c : Code} (h : Run P g c s (fun x s1 => match x with | .normal => Run P g (.loop c) s1 Φ | x => Φ x s1)) (hL : ∀ s1, Run P g (.loop c) s1 Φ → ∃ x s', Loops P g c s1 x s' ∧ Φ x s') : Run P g (.loop c) s Φ := by
  obtain ⟨x, s1, h1, h2⟩ := h
  cases x with
  | normal => obtain ⟨x, s', h3, h4⟩ := hL s1 h2; exact ⟨x, s', .loop (.step h1 h3), h4⟩
  | exit id => exact ⟨_, s1, .loop (.out h1 (by simp)), h2⟩
  | ret => exact ⟨_, s1, .loop (.out h1 (by simp)), h2⟩
/-- What is left to run of a loop. -/
def LoopR (P : Program) (g : Nat → Option (List PV)) (c : Code) (s : St) (Φ : Ex → St → Prop) : Prop := ∃ x s', Loops P g c s x s' ∧ Φ x s'
def roundR (P : Program) (g : Nat → Option (List PV)) (c : Code) (Φ : Ex → St → Prop) : Ex → St → Prop
  | .normal, s => LoopR P g c s Φ
  | x, s => Φ x s
theorem LoopR.run {c : Code} (h : LoopR P g c s Φ) : Run P g (.loop c) s Φ := let ⟨x, s', h1, h2⟩ := h; ⟨x, s', .loop h1, h2⟩
theorem LoopR.step {c : Code} (h : Run P g c s (roundR P g c Φ)) : LoopR P g c s Φ := by
  obtain ⟨x, s1, h1, h2⟩ := h
  cases x with
  | normal => obtain ⟨x, s', h3, h4⟩ := h2; exact ⟨x, s', .step h1 h3, h4⟩
  | exit id => exact ⟨_, s1, .out h1 (by simp), h2⟩
  | ret => exact ⟨_, s1, .out h1 (by simp), h2⟩
theorem LoopR.pre {c : Code} (h : SLe s s1) (h1 : LoopR P g c s1 Φ) : LoopR P g c s Φ := let ⟨x, s', h1, h2⟩ := h1; ⟨x, s', .pre h h1, h2⟩

/-- What a function's body must come to. -/
def Ends (P : Program) (fn : Func) (r : AV) (bs : List (Nat × Box)) (x : Ex) (s1 : St) : Prop :=
  (x = .normal ∨ x = .ret) ∧ ∃ ys, ress s1 fn.results.toList = some ys ∧ resTys P s1 fn.results.toList ∧ SLe ⟨1, [(0, oneOf ys)], s1.bx⟩ ⟨1, [(0, r)], bs⟩
theorem FnOk.of {f : FuncId} {fn : Func} {c : Code} {args : List AV} {r : AV} {bs : List (Nat × Box)} (hf : P.funcs[f]? = some fn) (hc : fn.body = some c) (hn : Nat.ble args.length fn.ntmps = true)
    (h : Run P g c ⟨fn.ntmps, params 0 args, []⟩ (Ends P fn r bs)) : FnOk P g f args r bs := by
  obtain ⟨x, s1, h1, h2, ys, h3, h4, h5⟩ := h
  have h6 : FnOk P g f args (oneOf ys) s1.bx := FnOk.mk hf hc hn h1 h2 h3 h4 rfl (SLe.refl _)
  intro w vals dat hdat hsz hvals hglo
  refine Calls.mono (h6 w vals dat hdat hsz hvals hglo) ?_
  rintro e w' ⟨v, G', rfl, hs⟩
  obtain ⟨G2, hs2⟩ := h5 _ _ _ _ hs
  exact ⟨v, G2, rfl, hs2⟩
theorem FnOk.to {f : FuncId} {args : List AV} {r r' : AV} {bs bs' : List (Nat × Box)} (h : FnOk P g f args r bs) (hle : SLe ⟨1, [(0, r)], bs⟩ ⟨1, [(0, r')], bs'⟩) : FnOk P g f args r' bs' := by
  intro w vals dat hdat hsz hvals hglo
  refine Calls.mono (h w vals dat hdat hsz hvals hglo) ?_
  rintro e w' ⟨v, G', rfl, hs⟩
  obtain ⟨G2, hs2⟩ := hle _ _ _ _ hs
  exact ⟨v, G2, rfl, hs2⟩
/-- A flat result needs no boxes. -/
theorem SLe.res {x y : AV} {bs bs' : List (Nat × Box)} (h : AVle ⟨1, [(0, x)], bs⟩ x y) (hb : ∀ p ∈ bs', ∃ B, look bs p.1 = some B ∧ BxLe ⟨1, [(0, x)], bs⟩ B p.2) (hm : men3 bs' y = true) (hmb : ∀ p ∈ bs', menB bs' p.2 = true) : SLe ⟨1, [(0, x)], bs⟩ ⟨1, [(0, y)], bs'⟩ :=
  SLe.mk (s := ⟨1, [(0, x)], bs⟩) (fun p hp => by simp at hp; subst hp; exact h) hb (fun p hp => by simp at hp; subst hp; exact hm) hmb
theorem SLe.res0 {x y : AV} {bs : List (Nat × Box)} (h : AVle ⟨1, [(0, x)], bs⟩ x y) (hm : men3 [] y = true) : SLe ⟨1, [(0, x)], bs⟩ ⟨1, [(0, y)], []⟩ :=
  SLe.res h (fun p hp => by simp at hp) hm (fun p hp => by simp at hp)
end
end Go.Proofs.YtcbdhdblchmofaaDoor.Vm
