/- The value machine, joined: part 2 of 4. Conditions: none. -/
import Derived.Test.YtlcmnhocicehmaaDoorVm1
import Derived.Lib.ConvBytes
import Derived.Laws.BytesString
import Derived.Laws.BytesArg
/- The value machine, eighth part: code run state by state. Conditions: none. -/
namespace Go.Proofs.YtlcmnhocicehmaaDoor.Vm
open Go Go.RowKit
set_option linter.unusedVariables false
set_option linter.unusedSimpArgs false

/-- The code comes from this state to an end of which Φ holds. -/
def Run (P : Program) (g : Gb) (c : Code) (s : St) (Φ : Ex → St → Prop) : Prop := ∃ x s', Runs P g c s x s' ∧ Φ x s'
def Ops (P : Program) (g : Gb) (ops : Array Oper) (l : List Oper) (s : St) (Φ : St → Prop) : Prop := ∃ s', RunsOps P g ops l s s' ∧ Φ s'
def thenR (P : Program) (g : Gb) (d : Code) (Φ : Ex → St → Prop) : Ex → St → Prop
  | .normal, s => Run P g d s Φ
  | x, s => Φ x s
def blockR (id : Nat) (Φ : Ex → St → Prop) : Ex → St → Prop
  | .exit i, s => if i = id then Φ .normal s else Φ (.exit i) s
  | x, s => Φ x s
section
variable {P : Program} {g : Gb} {s s1 s' : St} {Φ Ψ : Ex → St → Prop}
theorem Run.mono {c : Code} (h : Run P g c s Φ) (hm : ∀ x s', Φ x s' → Ψ x s') : Run P g c s Ψ := let ⟨x, s', h1, h2⟩ := h; ⟨x, s', h1, hm x s' h2⟩
theorem Run.skip (h : Φ .normal s) : Run P g .skip s Φ := ⟨_, _, .skip, h⟩
theorem Run.ret (h : Φ .ret s) : Run P g .ret s Φ := ⟨_, _, .ret, h⟩
theorem Run.exit {id : Nat} (h : Φ (.exit id) s) : Run P g (.exit id) s Φ := ⟨_, _, .exit id, h⟩
theorem Run.seq {c d : Code} (h : Run P g c s (thenR P g d Φ)) : Run P g (.seq c d) s Φ := by
  obtain ⟨x, s1, h1, h2⟩ := h
  cases x with
  | normal => obtain ⟨x, s', h3, h4⟩ := h2; exact ⟨x, s', .seq h1 h3, h4⟩
  | exit id => exact ⟨_, s1, .seqOut h1 (by simp), h2⟩
  | ret => exact ⟨_, s1, .seqOut h1 (by simp), h2⟩
  | goto l => exact ⟨_, s1, .seqOut h1 (by simp), h2⟩
theorem Run.block {id : Nat} {c : Code} (h : Run P g c s (blockR id Φ)) : Run P g (.block id c) s Φ := by
  obtain ⟨x, s1, h1, h2⟩ := h
  cases x with
  | normal => exact ⟨_, s1, .block h1, h2⟩
  | exit i =>
    by_cases e : i = id
    · subst e
      simp only [blockR, if_true] at h2
      exact ⟨_, s1, .blockOf h1, h2⟩
    · simp only [blockR, if_neg e] at h2
      exact ⟨_, s1, .blockOut h1 (by simp) (by simpa using e), h2⟩
  | ret => exact ⟨_, s1, .blockOut h1 (by simp) (by simp), h2⟩
  | goto l => exact ⟨_, s1, .blockOut h1 (by simp) (by simp), h2⟩
theorem Run.region {id : Nat} {l : List Oper} (h : Ops P g l.toArray l s (fun s1 => Φ .normal s1)) : Run P g (.region id l.toArray false) s Φ :=
  let ⟨s1, h1, h2⟩ := h; ⟨_, s1, .region h1, h2⟩
theorem Run.condT {q : Operand} {c d : Code} {b : Bool} (hq : s.ev g q = .pv (.bool b)) (hb : b = true) (h : Run P g c s Φ) : Run P g (.cond q c d) s Φ :=
  let ⟨x, s', h1, h2⟩ := h; ⟨x, s', .condT hq hb h1, h2⟩
theorem Run.condF {q : Operand} {c d : Code} {b : Bool} (hq : s.ev g q = .pv (.bool b)) (hb : b = false) (h : Run P g d s Φ) : Run P g (.cond q c d) s Φ :=
  let ⟨x, s', h1, h2⟩ := h; ⟨x, s', .condF hq hb h1, h2⟩
theorem Run.cond {q : Operand} {c d : Code} {b : Bool} (hq : s.ev g q = .pv (.bool b)) (h1 : b = true → Run P g c s Φ) (h2 : b = false → Run P g d s Φ) : Run P g (.cond q c d) s Φ := by
  cases b with
  | true => exact .condT hq rfl (h1 rfl)
  | false => exact .condF hq rfl (h2 rfl)
theorem Run.pre {c : Code} (h : SLe s s1) (h1 : Run P g c s1 Φ) : Run P g c s Φ := let ⟨x, s', h1, h2⟩ := h1; ⟨x, s', .pre h h1, h2⟩
theorem Ops.nil {ops : Array Oper} {Θ : St → Prop} (h : Θ s) : Ops P g ops [] s Θ := ⟨s, .nil, h⟩
theorem Ops.op {ops : Array Oper} {o : Oper} {l : List Oper} {Θ : St → Prop} (hgd : o.guard = none) (h1 : OpOk P g o s s1) (h2 : Ops P g ops l s1 Θ) : Ops P g ops (o :: l) s Θ := let ⟨s', h3, h4⟩ := h2; ⟨s', .op hgd h1 h3, h4⟩
theorem Ops.yes {ops : Array Oper} {o : Oper} {l : List Oper} {Θ : St → Prop} {j t : Nat} {b want : Bool} (hgd : o.guard = some (j, want)) (hj : (ops[j]?).bind (·.dst) = some t) (ht : s.get t = .pv (.bool b)) (hb : b = want) (h1 : OpOk P g o s s1) (h2 : Ops P g ops l s1 Θ) : Ops P g ops (o :: l) s Θ :=
  let ⟨s', h3, h4⟩ := h2; ⟨s', .guardYes hgd hj ht hb h1 h3, h4⟩
theorem Ops.no {ops : Array Oper} {o : Oper} {l : List Oper} {Θ : St → Prop} {j t : Nat} {want : Bool} {x : AV} (hgd : o.guard = some (j, want)) (hj : (ops[j]?).bind (·.dst) = some t) (ht : s.get t = x) (hb : offB want x = true) (hd : dstOk o.dst s.n = true) (h2 : Ops P g ops l (s.putO o.dst (.tup [])) Θ) : Ops P g ops (o :: l) s Θ :=
  let ⟨s', h3, h4⟩ := h2; ⟨s', .guardNo hgd hj ht hb (dlt hd) h3, h4⟩
theorem Ops.pre {ops : Array Oper} {l : List Oper} {Θ : St → Prop} (h : SLe s s1) (h2 : Ops P g ops l s1 Θ) : Ops P g ops l s Θ := let ⟨s', h3, h4⟩ := h2; ⟨s', .pre h h3, h4⟩
/-- A loop: each round begins in a state of this family, at a smaller number, or ends it. -/
theorem Run.loop {c : Code} {ι : Type} (S : ι → St) (μ : ι → Nat) (round : ∀ i, (∃ s1 j, Runs P g c (S i) .normal s1 ∧ μ j < μ i ∧ SLe s1 (S j)) ∨ Run P g c (S i) (fun x s' => x ≠ .normal ∧ Φ x s')) (i : ι) : Run P g (.loop c) (S i) Φ := by
  have key : ∀ n i, μ i = n → ∃ x s', Loops P g c (S i) x s' ∧ Φ x s' := by
    intro n
    induction n using Nat.strongRecOn with
    | _ n ih =>
      intro i hi
      rcases round i with ⟨s1, j, h1, h2, h3⟩ | ⟨x, s', h1, h2, h3⟩
      · obtain ⟨x, s', h4, h5⟩ := ih (μ j) (hi ▸ h2) j rfl
        exact ⟨x, s', .step h1 (.pre h3 h4), h5⟩
      · exact ⟨x, s', .out h1 h2, h3⟩
  obtain ⟨x, s', h1, h2⟩ := key _ i rfl
  exact ⟨x, s', .loop h1, h2⟩
/-- One round of a loop and the loop again. -/
theorem Run.round {c : Code} (h : Run P g c s (fun x s1 => match x with | .normal => Run P g (.loop c) s1 Φ | x => Φ x s1)) (hL : ∀ s1, Run P g (.loop c) s1 Φ → ∃ x s', Loops P g c s1 x s' ∧ Φ x s') : Run P g (.loop c) s Φ := by
  obtain ⟨x, s1, h1, h2⟩ := h
  cases x with
  | normal => obtain ⟨x, s', h3, h4⟩ := hL s1 h2; exact ⟨x, s', .loop (.step h1 h3), h4⟩
  | exit id => exact ⟨_, s1, .loop (.out h1 (by simp)), h2⟩
  | ret => exact ⟨_, s1, .loop (.out h1 (by simp)), h2⟩
  | goto l => exact ⟨_, s1, .loop (.out h1 (by simp)), h2⟩
/-- What is left to run of a loop. -/
def LoopR (P : Program) (g : Gb) (c : Code) (s : St) (Φ : Ex → St → Prop) : Prop := ∃ x s', Loops P g c s x s' ∧ Φ x s'
def roundR (P : Program) (g : Gb) (c : Code) (Φ : Ex → St → Prop) : Ex → St → Prop
  | .normal, s => LoopR P g c s Φ
  | x, s => Φ x s
theorem LoopR.run {c : Code} (h : LoopR P g c s Φ) : Run P g (.loop c) s Φ := let ⟨x, s', h1, h2⟩ := h; ⟨x, s', .loop h1, h2⟩
theorem LoopR.step {c : Code} (h : Run P g c s (roundR P g c Φ)) : LoopR P g c s Φ := by
  obtain ⟨x, s1, h1, h2⟩ := h
  cases x with
  | normal => obtain ⟨x, s', h3, h4⟩ := h2; exact ⟨x, s', .step h1 h3, h4⟩
  | exit id => exact ⟨_, s1, .out h1 (by simp), h2⟩
  | ret => exact ⟨_, s1, .out h1 (by simp), h2⟩
  | goto l => exact ⟨_, s1, .out h1 (by simp), h2⟩
theorem LoopR.pre {c : Code} (h : SLe s s1) (h1 : LoopR P g c s1 Φ) : LoopR P g c s Φ := let ⟨x, s', h1, h2⟩ := h1; ⟨x, s', .pre h h1, h2⟩

/-- What a function's body must come to. -/
def Ends (P : Program) (fn : Func) (r : AV) (bs : List (Nat × Box)) (x : Ex) (s1 : St) : Prop :=
  (x = .normal ∨ x = .ret) ∧ ∃ ys, ress s1 fn.results.toList = some ys ∧ resTys P s1 fn.results.toList ∧ SLe ⟨1, [(0, oneOf ys)], s1.bx⟩ ⟨1, [(0, r)], bs⟩
theorem FnOk.of {f : FuncId} {fn : Func} {c : Code} {args : List AV} {r : AV} {bs : List (Nat × Box)} (hf : P.funcs[f]? = some fn) (hc : fn.body = some c) (hn : Nat.ble args.length fn.ntmps = true)
    (h : Run P g c ⟨fn.ntmps, params 0 args, []⟩ (Ends P fn r bs)) (hln : g.ln = []) : FnOk P g f args r bs := by
  obtain ⟨x, s1, h1, h2, ys, h3, h4, h5⟩ := h
  have h6 : FnOk P g f args (oneOf ys) s1.bx := FnOk.mk hf hc hn h1 h2 h3 h4 rfl (SLe.refl _) hln
  intro w vals dat hdat hsz hvals hglo
  refine Calls.mono (h6 w vals dat hdat hsz hvals hglo) ?_
  rintro e w' ⟨v, G', rfl, hs⟩
  obtain ⟨G2, hs2⟩ := h5 _ _ _ _ hs
  exact ⟨v, G2, rfl, hs2⟩
theorem FnOk.to {f : FuncId} {args : List AV} {r r' : AV} {bs bs' : List (Nat × Box)} (h : FnOk P g f args r bs) (hle : SLe ⟨1, [(0, r)], bs⟩ ⟨1, [(0, r')], bs'⟩) : FnOk P g f args r' bs' := by
  intro w vals dat hdat hsz hvals hglo
  refine Calls.mono (h w vals dat hdat hsz hvals hglo) ?_
  rintro e w' ⟨v, G', rfl, hs⟩
  obtain ⟨G2, hs2⟩ := hle _ _ _ _ hs
  exact ⟨v, G2, rfl, hs2⟩
/-- A flat result needs no boxes. -/
theorem SLe.res {x y : AV} {bs bs' : List (Nat × Box)} (h : AVle ⟨1, [(0, x)], bs⟩ x y) (hb : ∀ p ∈ bs', ∃ B, look bs p.1 = some B ∧ BxLe ⟨1, [(0, x)], bs⟩ B p.2) (hm : men3 bs' y = true) (hmb : ∀ p ∈ bs', menB bs' p.2 = true) : SLe ⟨1, [(0, x)], bs⟩ ⟨1, [(0, y)], bs'⟩ :=
  SLe.mk (s := ⟨1, [(0, x)], bs⟩) (fun p hp => by simp at hp; subst hp; exact h) hb (fun p hp => by simp at hp; subst hp; exact hm) hmb
theorem SLe.res0 {x y : AV} {bs : List (Nat × Box)} (h : AVle ⟨1, [(0, x)], bs⟩ x y) (hm : men3 [] y = true) : SLe ⟨1, [(0, x)], bs⟩ ⟨1, [(0, y)], []⟩ :=
  SLe.res h (fun p hp => by simp at hp) hm (fun p hp => by simp at hp)
end
end Go.Proofs.YtlcmnhocicehmaaDoor.Vm

/- The value machine, ninth part: aggregates built, slices made, texts and bytes. Conditions: none. -/
namespace Go.Proofs.YtlcmnhocicehmaaDoor.Vm
open Go Go.RowKit
set_option linter.unusedVariables false
set_option linter.unusedSimpArgs false

section
variable {P : Program} {g : Gb} {s s1 s' : St} {cx : Cx} {a : Act} {w : World} {G : Gh}

/-- A value that may stand in memory for good. -/
def St.pub1? (s : St) : AV → Option PV
  | .pv p => bif p.one then some p else none
  | y => (s.lstOf y).map fun q => .lst q.1 q.2
def pubs? (s : St) : List AV → Option (List PV)
  | [] => some []
  | x :: xs => match s.pub1? x, pubs? s xs with
    | some p, some ps => some (p :: ps)
    | _, _ => none
def St.pub? (s : St) : AV → Option PV
  | .agg cs => (pubs? s cs).map .agg
  | .pv p => some p
  | y => (s.lstOf y).map fun q => .lst q.1 q.2
theorem SR.pub1 (h : SR cx s a w G) {x : AV} {v : Value} {p : PV} (hx : RA G x v) (hp : s.pub1? x = some p) : RP G.dat p v ∧ p.one = true := by
  cases x with
  | pv q =>
    simp only [St.pub1?] at hp
    cases ho : q.one with
    | false => rw [ho] at hp; cases hp
    | true =>
      rw [ho] at hp
      obtain rfl := Option.some.inj hp
      cases hx with | pv _ _ hx => exact ⟨hx, ho⟩
  | gl b n =>
    simp only [St.pub1?, Option.map_eq_some_iff] at hp
    obtain ⟨q, hq, rfl⟩ := hp
    exact ⟨h.lst hx hq, rfl⟩
  | _ => simp [St.pub1?, St.lstOf] at hp
theorem SR.pubs (h : SR cx s a w G) : ∀ (xs : List AV) (ps : List PV) (vs : List Value), pubs? s xs = some ps → vs.length = xs.length → (∀ (i : Nat) x v, xs[i]? = some x → vs[i]? = some v → RA G x v) →
    ps.length = xs.length ∧ (∀ p ∈ ps, p.one = true) ∧ (∀ (i : Nat) p v, ps[i]? = some p → vs[i]? = some v → RP G.dat p v)
  | [], ps, vs, hp, hl, hr => by
    obtain rfl := Option.some.inj hp
    exact ⟨rfl, fun p hp => by simp at hp, fun i p v hp => by simp at hp⟩
  | x :: xs, ps, vs, hp, hl, hr => by
    cases vs with
    | nil => simp at hl
    | cons v vs =>
      simp only [pubs?] at hp
      split at hp
      · rename_i p ps' h1 h2
        obtain rfl := Option.some.inj hp
        obtain ⟨e1, e2⟩ := h.pub1 (hr 0 x v rfl rfl) h1
        obtain ⟨k1, k2, k3⟩ := SR.pubs h xs ps' vs h2 (by simpa using hl) (fun i y u hy hu => hr (i + 1) y u (by simpa using hy) (by simpa using hu))
        refine ⟨by simp [k1], fun q hq => ?_, fun i q u hq hu => ?_⟩
        · cases hq with
          | head => exact e2
          | tail _ hq => exact k2 q hq
        · cases i with
          | zero => simp at hq hu; subst hq; subst hu; exact e1
          | succ i => exact k3 i q u (by simpa using hq) (by simpa using hu)
      · cases hp
/-- The cells of a value that is published. -/
theorem SR.pub (h : SR cx s a w G) {x : AV} {v : Value} {p : PV} {sz : Nat} (hx : RA G x v) (hp : s.pub? x = some p) (hsz : p.cells.length = sz) (h1 : ∀ q ∈ p.cells, q.one = true) :
    v.cells.size = sz ∧ (∀ (i : Nat) q u, p.cells[i]? = some q → v.cells[i]? = some u → RP G.dat q u) ∧ ∀ u ∈ v.cells.toList, u.oneCell' = true := by
  have single : RP G.dat p v → p.one = true → v.cells.size = sz ∧ (∀ (i : Nat) q u, p.cells[i]? = some q → v.cells[i]? = some u → RP G.dat q u) ∧ ∀ u ∈ v.cells.toList, u.oneCell' = true := by
    intro hr ho
    obtain ⟨e1, e2⟩ := hr.one ho
    have hc : p.cells = [p] := by cases p <;> first | rfl | cases ho
    rw [e2]
    rw [hc] at hsz ⊢
    refine ⟨by simpa using hsz, fun i q u hq hu => ?_, fun u hu => ?_⟩
    · cases i with
      | zero => simp at hq hu; subst hq; subst hu; exact hr
      | succ i => simp at hq
    · simp at hu; subst hu; exact e1
  cases x with
  | pv q =>
    obtain rfl := Option.some.inj hp
    cases hx with
    | pv _ _ hx =>
      cases hq : q.one with
      | true => exact single hx hq
      | false =>
        cases q with
        | agg cs =>
          cases hx with
          | agg _ vs hl h2 h3 =>
            refine ⟨by rw [← hsz]; exact hl, h3, fun u hu => ?_⟩
            obtain ⟨i, hi, rfl⟩ := List.mem_iff_getElem.1 hu
            simp only [Array.length_toList, Value.cells] at hi
            have hlt : i < cs.length := by omega
            exact ((h3 i cs[i] vs[i] (by simp [hlt]) (by simp [hi])).one (h2 _ (List.getElem_mem hlt))).1
        | _ => cases hq
  | agg cs =>
    simp only [St.pub?, Option.map_eq_some_iff] at hp
    obtain ⟨ps, hps, rfl⟩ := hp
    cases hx with
    | agg _ vs hl h2 =>
      obtain ⟨k1, k2, k3⟩ := h.pubs cs ps vs.toList hps (by simpa using hl) (fun i y u hy hu => h2 i y u hy (by rwa [Array.getElem?_toList] at hu))
      refine ⟨?_, fun i q u hq hu => k3 i q u hq (show vs.toList[i]? = some u by rw [Array.getElem?_toList]; exact hu), fun u hu => ?_⟩
      · show vs.size = sz
        rw [← hsz, hl, ← k1]; rfl
      · obtain ⟨i, hi, rfl⟩ := List.mem_iff_getElem.1 hu
        simp only [Array.length_toList, Value.cells] at hi
        have hlt : i < ps.length := by omega
        exact ((k3 i ps[i] vs[i] (by simp [hlt]) (by simp [Value.cells, hi])).one (k2 _ (List.getElem_mem hlt))).1
  | gl b n =>
    simp only [St.pub?, Option.map_eq_some_iff] at hp
    obtain ⟨q, hq, rfl⟩ := hp
    exact single (h.lst hx hq) rfl
  | _ => simp [St.pub?, St.lstOf] at hp

/-- A new row of cells, as a slice of the call's own. -/
theorem SR.newLst (h : SR cx s a w G) {b e sz : Nat} (hb : look s.bx b = none) {xs : List PV} {cells : Array Value} (hsz : 0 < sz) (hr : RowsOf G.dat sz xs cells.toList) (hm : xs.length ≤ maxLen) :
    ∃ G', SR cx (s.box b (.lst e sz xs)) a (w.alloc (.cells cells e)) G' ∧ RA G' (.gl b xs.length) (.slice (some ⟨w.heap.size, 0, none⟩) xs.length xs.length) := by
  have hown : G.own b = none := by simp [Gh.own, h.blk_none hb, h.ls_none hb]
  have hlen := hr.len
  have hrow : cx.owns (w.alloc (.cells cells e)) e sz (.slice (some ⟨w.heap.size, 0, none⟩) xs.length xs.length) xs.length cells.toList :=
    ⟨⟨hlen, .inr ⟨w.heap.size, xs.length, cells, rfl, Nat.zero_le _, heap_alloc_new w _, Nat.le_refl _, hm, by simpa using hlen, by rw [← hlen]; exact List.take_length⟩⟩, fun k hk => by obtain rfl := Option.some.inj hk; exact .inl h.basele⟩
  obtain ⟨G', k1, k2, k3, k4⟩ := h.growLst (w' := w.alloc (.cells cells e)) (b := b) (e := e) (sz := sz) (xs := xs) (hh := .slice (some ⟨w.heap.size, 0, none⟩) xs.length xs.length) (us := cells.toList) hsz (h.blk_none hb) hrow hr
    (h.bel.alloc h.basele _) (by simp) (fun k hk _ => heap_alloc_old w _ k hk) (fun k o v hk => by rw [hown] at hk; cases hk) (.inr ⟨_, rfl, Nat.le_refl _⟩)
    (fun k _ hk => by rw [hown] at hk; cases hk) (fun sz0 xs0 h0 hq => by rw [h.ls_none hb] at hq; cases hq)
  exact ⟨G', k4, .gl b _ _ sz xs _ k2 (Nat.le_refl _) (by rw [List.take_length]; exact k3) (fun _ => rfl)⟩

/-- One part of a literal laid into its place. -/
theorem setAt_cons {α : Type} {L cs : List α} {k : Nat} {c : α} (h : k + 1 + cs.length ≤ L.length) : setAt (L.set k c) (k + 1) cs = setAt L k (c :: cs) := by
  unfold setAt
  have e1 : (L.set k c).take (k + 1) = L.take k ++ [c] := by
    rw [List.set_eq_take_append_cons_drop, if_pos (by omega), List.take_append]
    have : (L.take k).length = k := by simp; omega
    rw [this, List.take_of_length_le (by omega)]
    simp
  have e2 : (L.set k c).drop (k + 1 + cs.length) = L.drop (k + (c :: cs).length) := by
    rw [List.drop_set_of_lt (by omega)]
    congr 1
    simp
    omega
  rw [e1, e2]
  simp
theorem fold_set (off : Nat) : ∀ (cs : List Value) (j : Nat) (cells : Array Value), off + j + cs.length ≤ cells.size → ((cs.zipIdx j).foldl (fun (cs : Array Value) (c : Value × Nat) => cs.setIfInBounds (off + c.2) c.1) cells).toList = setAt cells.toList (off + j) cs
  | [], j, cells, h => by simp [setAt]
  | c :: cs, j, cells, h => by
    simp only [List.zipIdx_cons, List.foldl_cons]
    simp only [List.length_cons] at h
    rw [fold_set off cs (j + 1) _ (by simp; omega), Array.toList_setIfInBounds]
    exact setAt_cons (by simp; omega)
theorem fold_arr (off : Nat) (cs cells : Array Value) (h : off + cs.size ≤ cells.size) : (cs.zipIdx.foldl (fun (acc : Array Value) (c : Value × Nat) => acc.setIfInBounds (off + c.2) c.1) cells).toList = setAt cells.toList off cs.toList := by
  rw [← Array.foldl_toList, Array.toList_zipIdx]
  exact fold_set off cs.toList 0 cells (by simpa using h)

/-- The parts of a literal, one after the other. -/
def fillAV (place : Nat → Option (Nat × Nat)) (s : St) (g : Gb) (cells : List AV) : List (Nat × Operand) → Option (List AV)
  | [] => some cells
  | (i, x) :: rest => match place i, (s.ev g x).cells? with
    | some (off, size), some ys => bif Nat.beq ys.length size && Nat.ble (off + ys.length) cells.length then fillAV place s g (setAt cells off ys) rest else none
    | _, _ => none
theorem run_fill (h : SR cx s a w G) (hg : cx.g = g) {place : Nat → Option (Nat × Nat)} : ∀ (parts : List (Nat × Operand)) (cells r : List AV) (cs : Array Value), fillAV place s g cells parts = some r → cs.size = cells.length → (∀ (i : Nat) x v, cells[i]? = some x → cs[i]? = some v → RA G x v) →
    ∃ rs, Instr.fill place cs (parts.map fun (i, x) => (i, a.eval x)) = some rs ∧ rs.size = r.length ∧ ∀ (i : Nat) x v, r[i]? = some x → rs[i]? = some v → RA G x v
  | [], cells, r, cs, hf, hl, hr => by
    obtain rfl := Option.some.inj hf
    exact ⟨cs, rfl, hl, hr⟩
  | (i, x) :: rest, cells, r, cs, hf, hl, hr => by
    simp only [fillAV] at hf
    split at hf
    · rename_i off size ys hp hy
      obtain ⟨e1, e2, e3⟩ := (h.ev hg x).cells hy
      cases hb : Nat.beq ys.length size && Nat.ble (off + ys.length) cells.length with
      | false => rw [hb] at hf; cases hf
      | true =>
        rw [hb] at hf
        simp only [cond_true] at hf
        rw [Bool.and_eq_true] at hb
        have hsz := Nat.eq_of_beq_eq_true hb.1
        have hle := Nat.le_of_ble_eq_true hb.2
        have hfold := fold_arr off (a.eval x).cells cs (by omega)
        obtain ⟨rs, k1, k2, k3⟩ := run_fill h hg rest (setAt cells off ys) r ((a.eval x).cells.zipIdx.foldl (fun (acc : Array Value) (c : Value × Nat) => acc.setIfInBounds (off + c.2) c.1) cs) hf
          (by rw [← Array.length_toList, hfold]; simp [setAt, e1, hl])
          (fun j u v hu hv => by
            rw [← Array.getElem?_toList, hfold] at hv
            exact setAt_pt (R := RA G) (cs := cells) (vs := cs.toList) (ys := ys) (us := (a.eval x).cells.toList) (fun j u v hu hv => hr j u v hu (by rwa [Array.getElem?_toList] at hv)) (fun j u v hu hv => e2 j u v hu (by rwa [Array.getElem?_toList] at hv)) (by simpa using Nat.le_of_eq hl.symm) (by simpa using e1) hle j u v hu hv)
        refine ⟨rs, ?_, k2, k3⟩
        simp only [List.map_cons, Instr.fill, hp]
        rw [if_neg (by simp [e1, hsz]; omega)]
        exact k1
    · cases hf
theorem OpOk.build {dst : Option Tmp} {t : TypeId} {parts : Array (Nat × Operand)} {ty : TypeId} {pos : String} {after : Array Edge} {gd : Option (Nat × Bool)} {i : TI} {l : List (Nat × Nat)} {cs : List AV} (ht : tiOf P t = some i) (hl : laysOf P t = some l)
    (hf : fillAV (fun j => l[j]?) s g (i.zero.map .pv) parts.toList = some cs) (hd : ∀ t, dst = some t → t < s.n) : OpOk P g ⟨dst, .build t parts, ty, pos, after, gd⟩ s (s.putO dst (.agg cs)) := by
  refine OpOk.val (o := ⟨dst, .build t parts, ty, pos, after, gd⟩) hd (fun cx a w G hP hg hs => ?_)
  obtain ⟨inf, z, dd, i1, i2, i3, i4, i5, i6, i7⟩ := tiOf_ok ht
  obtain ⟨fs, f1, hfs, rfl⟩ := laysOf_ok hl
  obtain ⟨e1, e2⟩ := pvOfs_ok (G := G) _ _ i7
  obtain ⟨rs, k1, k2, k3⟩ := run_fill hs hg parts.toList _ cs z.cells hf (by simpa using e1) (fun j x v hx hv => e2 j x v hx (by rwa [Array.getElem?_toList]))
  refine ⟨.agg rs, ?_, .agg cs rs k2 k3⟩
  have hu := run_underlying f1 w
  have hz : (zeroValue t).run P w = .ok z w := by simp [zeroValue, typeInfo, i1, i6]
  have key : ∀ (fl : List Field) (acc : Array (Nat × Nat)), (∀ f ∈ fl, ∃ inf, P.info? f.type = some inf) → (fl.foldlM (m := Sem) (fun (bs : Array (Nat × Nat)) (f : Field) => do
      let b ← (do pure (f.offset, ← sizeOf f.type))
      pure (bs.push b)) acc).run P w = .ok (acc ++ (fl.map fun f => (f.offset, P.cellsOf f.type)).toArray) w := by
    intro fl
    induction fl with
    | nil => intro acc _; simp [Sem.run]
    | cons f fl ih =>
      intro acc hq
      obtain ⟨inf, hi⟩ := hq f (by simp)
      have h1 : (sizeOf f.type).run P w = .ok (P.cellsOf f.type) w := by simp [sizeOf, typeInfo, Program.cellsOf, hi]
      simp only [List.foldlM_cons, Sem.run_bind, h1, Result.andThen_ok, Sem.run_pure]
      rw [ih _ (fun f hf => hq f (by simp [hf]))]
      simp
  have hmap := key fs.toList #[] (fun f hf => by
    have := List.all_eq_true.1 hfs f hf
    exact Option.isSome_iff_exists.1 this)
  have hrun : (execOp a.eval ⟨dst, .build t parts, ty, pos, after, gd⟩).run P w = .ok (.value (.agg rs)) w := by
    simp only [execOp, Instr.build, Sem.run_bind, hz, hu, Result.andThen_ok]
    rw [Array.mapM_eq_foldlM, ← Array.foldlM_toList]
    have e3 : ∀ k : Array (Nat × Nat) → Sem Value, Result.andThen ((List.foldlM (m := Sem) (fun (bs : Array (Nat × Nat)) (f : Field) => do
        let b ← (do pure (f.offset, ← sizeOf f.type))
        pure (bs.push b)) #[] fs.toList).run P w) (fun x w => (k x).run P w) = (k (#[] ++ (fs.toList.map fun f => (f.offset, P.cellsOf f.type)).toArray)).run P w := fun k => by rw [hmap]; rfl
    refine Eq.trans (congrArg (fun r => Result.andThen r _) (e3 _)) ?_
    have e4 : (fun (j : Nat) => (fs.toList.map fun f => (f.offset, P.cellsOf f.type))[j]?) = fun (j : Nat) => (#[] ++ (fs.toList.map fun f => (f.offset, P.cellsOf f.type)).toArray)[j]? := by funext j; simp
    rw [e4] at k1
    simp only [Array.toList_map, k1]
    rfl
  exact hrun
end
end Go.Proofs.YtlcmnhocicehmaaDoor.Vm

/- The value machine, tenth part: slices of literals, texts to bytes and back. Conditions: none. -/
namespace Go.Proofs.YtlcmnhocicehmaaDoor.Vm
open Go Go.RowKit
set_option linter.unusedVariables false
set_option linter.unusedSimpArgs false

theorem RowsOf.nil (dat : Nat → Nat → Option Value) (sz : Nat) : RowsOf dat sz [] [] := ⟨by simp, fun e he => by simp at he, fun e he => by simp at he, fun i j e x v he => by simp at he⟩
theorem RowsOf.one {dat : Nat → Nat → Option Value} {sz : Nat} {p : PV} {us : List Value} (hl : us.length = sz) (hz : p.cells.length = sz) (h1 : ∀ q ∈ p.cells, q.one = true) (h : ∀ (i : Nat) q u, p.cells[i]? = some q → us[i]? = some u → RP dat q u) : RowsOf dat sz [p] us := by
  refine ⟨by simp [hl], fun e he => by simp at he; subst he; exact hz, fun e he => by simp at he; subst he; exact h1, fun i j e x v he hx hv => ?_⟩
  cases i with
  | zero => simp at he; subst he; exact h j x v hx (by simpa using hv)
  | succ i => simp at he

/-- The elements of a literal, in order: what they are once they are published. -/
def elems (s : St) (g : Gb) (sz : Nat) : Nat → List (Nat × Operand) → Option (List PV)
  | _, [] => some []
  | k, (i, x) :: rest => match s.pub? (s.ev g x), elems s g sz (k + 1) rest with
    | some p, some ps => bif Nat.beq i k && Nat.beq p.cells.length sz && p.cells.all PV.one then some (p :: ps) else none
    | _, _ => none
section
variable {P : Program} {g : Gb} {s s1 s' : St} {cx : Cx} {a : Act} {w : World} {G : Gh}
theorem run_elems (h : SR cx s a w G) (hg : cx.g = g) {sz : Nat} : ∀ (parts : List (Nat × Operand)) (k : Nat) (ps : List PV) (cells : Array Value) (done : List Value), elems s g sz k parts = some ps → done.length = k * sz → cells.size = (k + parts.length) * sz → cells.toList.take (k * sz) = done →
    ∃ us rs, RowsOf G.dat sz ps us ∧ Instr.fill (fun i => some (i * sz, sz)) cells (parts.map fun (i, x) => (i, a.eval x)) = some rs ∧ rs.toList = done ++ us
  | [], k, ps, cells, done, he, hd, hc, ht => by
    obtain rfl := Option.some.inj he
    refine ⟨[], cells, RowsOf.nil _ _, rfl, ?_⟩
    rw [List.append_nil, ← ht, List.take_of_length_le (by simp [hc])]
  | (i, x) :: rest, k, ps, cells, done, he, hd, hc, ht => by
    simp only [elems] at he
    split at he
    · rename_i p ps' h1 h2
      cases hb : Nat.beq i k && Nat.beq p.cells.length sz && p.cells.all PV.one with
      | false => rw [hb] at he; cases he
      | true =>
        rw [hb] at he
        obtain rfl := Option.some.inj he
        rw [Bool.and_eq_true, Bool.and_eq_true] at hb
        have hik := Nat.eq_of_beq_eq_true hb.1.1
        have hpz := Nat.eq_of_beq_eq_true hb.1.2
        have hp1 : ∀ q ∈ p.cells, q.one = true := fun q hq => List.all_eq_true.1 hb.2 q hq
        subst hik
        obtain ⟨e1, e2, e3⟩ := h.pub (h.ev hg x) h1 hpz hp1
        simp only [List.length_cons] at hc
        have hmul : (i + (rest.length + 1)) * sz = i * sz + sz + rest.length * sz := by rw [Nat.add_mul, Nat.add_mul]; omega
        have hfold := fold_arr (i * sz) (a.eval x).cells cells (by omega)
        have hlen : ((a.eval x).cells.toList).length = sz := by simpa using e1
        obtain ⟨us, rs, k1, k2, k3⟩ := run_elems h hg rest (i + 1) ps' ((a.eval x).cells.zipIdx.foldl (fun (acc : Array Value) (c : Value × Nat) => acc.setIfInBounds (i * sz + c.2) c.1) cells) (done ++ (a.eval x).cells.toList) h2
          (by rw [List.length_append, hd, hlen, Nat.add_mul]; omega)
          (by
            rw [← Array.length_toList, hfold]
            have : (setAt cells.toList (i * sz) (a.eval x).cells.toList).length = cells.size := by simp [setAt]; omega
            rw [this, hc, hmul, Nat.add_mul, Nat.add_mul]; omega)
          (by
            rw [hfold, ← ht]
            unfold setAt
            rw [List.take_append_of_le_length (by simp; rw [Nat.add_mul]; omega), List.take_of_length_le (by simp; rw [Nat.add_mul]; omega)])
        refine ⟨(a.eval x).cells.toList ++ us, rs, (RowsOf.one hlen hpz hp1 (fun j q u hq hu => e2 j q u hq (by rwa [Array.getElem?_toList] at hu))).append k1, ?_, by rw [k3, List.append_assoc]⟩
        simp only [List.map_cons, Instr.fill]
        rw [if_neg (by simp [e1]; omega)]
        exact k2
    · cases he
theorem OpOk.buildSlice {d : Tmp} {t e : TypeId} {len : Nat} {parts : Array (Nat × Operand)} {ty : TypeId} {pos : String} {after : Array Edge} {gd : Option (Nat × Bool)} {i ie : TI} {xs : List PV} (b : Nat) (ht : tiOf P t = some i) (hk : i.desc = .slc e) (he : tiOf P e = some ie)
    (hz : Nat.beq ie.zero.length ie.size = true) (hpos : Nat.blt 0 ie.size = true) (hel : elems s g ie.size 0 parts.toList = some xs) (hlen : Nat.beq len parts.toList.length = true) (hlen2 : Nat.beq len xs.length = true) (hbig : Nat.ble (len * ie.size) 16777216 = true) (hb : look s.bx b = none) (hd : d < s.n) :
    OpOk P g ⟨some d, .buildSlice t len parts, ty, pos, after, gd⟩ s ((s.box b (.lst e ie.size xs)).put d (.gl b xs.length)) := by
  intro cx a w G hP hg hs K Q hK
  have hz := Nat.eq_of_beq_eq_true hz
  have hpos := Nat.le_of_ble_eq_true hpos
  have hlen := Nat.eq_of_beq_eq_true hlen
  have hlen2 := Nat.eq_of_beq_eq_true hlen2
  have hbig := Nat.le_of_ble_eq_true hbig
  obtain ⟨inf, z, dd, i1, i2, i3, i4, i5, i6, i7⟩ := tiOf_ok he
  have hzc : z.cells.size = ie.size := by
    have := (pvOfs_ok (G := G) _ _ i7).1
    rw [Array.length_toList] at this
    rw [this, hz]
  obtain ⟨us, rs, k1, k2, k3⟩ := run_elems hs hg parts.toList 0 xs ((Array.range (len * ie.size)).map (fun j => z.cells[j % z.cells.size]!)) [] hel (by simp) (by simp [hlen]) (by simp)
  simp only [List.nil_append] at k3
  have hxl : xs.length ≤ maxLen := by
    have h1 : len ≤ len * ie.size := Nat.le_mul_of_pos_right _ hpos
    simp only [maxLen]; omega
  obtain ⟨G', j1, j2⟩ := hs.newLst (b := b) (e := e) (sz := ie.size) hb (xs := xs) (cells := rs) hpos (by rw [k3]; exact k1) hxl
  have hu := run_underlying (tiOf_slc ht hk)
  have hrun : (execOp a.eval ⟨some d, .buildSlice t len parts, ty, pos, after, gd⟩).run P w = .ok (.value (.slice (some ⟨w.heap.size, 0, none⟩) len len)) (w.alloc (.cells rs e)) := by
    simp only [execOp, Instr.buildSlice, Sem.run_bind, hu, tiOf_size he, Result.andThen_ok]
    rw [if_neg (by omega)]
    have hpl : (parts.map fun (i, x) => (i, a.eval x)).toList = parts.toList.map (fun (i, x) => (i, a.eval x)) := by simp
    by_cases c : len * ie.size = 0
    · rw [if_pos c]
      have hsame : (Array.range (len * ie.size)).map (fun j => (#[] : Array Value)[j % (#[] : Array Value).size]!) = (Array.range (len * ie.size)).map (fun j => z.cells[j % z.cells.size]!) := by
        rw [c]; simp
      simp only [Sem.run_bind, Sem.run_pure, Result.andThen_ok, hsame, hpl, k2]
      simp [newRow, newObj, Sem.run, World.alloc, -World.alloc_eq, Sem.run_bind, Result.andThen]
    · rw [if_neg c]
      have hzv : (zeroValue e).run P w = .ok z w := by simp [zeroValue, typeInfo, i1, i6]
      simp only [Sem.run_bind, Sem.run_pure, Result.andThen_ok, hzv, hpl, k2]
      simp [newRow, newObj, Sem.run, World.alloc, -World.alloc_eq, Sem.run_bind, Result.andThen]
  unfold Oper.wp
  rw [hrun, hlen2]
  exact hK _ _ G' (j1.put hd j2)

/-- New cells that are known for good from now on, in a new block. -/
theorem SR.newDat (h : SR cx s a w G) {w' : World} (D : Nat → Option Value) (hk : w.heap.size < w'.heap.size) (hold : ∀ k, k < w.heap.size → w'.heap[k]? = w.heap[k]?) (hbel : BelowM cx w') (hD : ∀ o v, D o = some v → w'.cell? ⟨w.heap.size, o, none⟩ = some v) :
    ∃ G', G.Le G' ∧ (∀ o, G'.dat w.heap.size o = D o) ∧ SR cx s a w' G' := by
  obtain ⟨G', hG⟩ : ∃ G' : Gh, G' = ⟨fun b o => if b = w.heap.size then D o else G.dat b o, G.blk, G.ls⟩ := ⟨_, rfl⟩
  have hnone : ∀ o, G.dat w.heap.size o = none := fun o => by
    cases hd : G.dat w.heap.size o with
    | none => rfl
    | some v => exact absurd (h.dat_lt hd) (Nat.lt_irrefl _)
  have hle : G.Le G' := by
    subst hG
    refine ⟨fun b o v hv => ?_, fun _ _ h => h, fun b sz xs hh hb => ⟨[], hh, by simpa using hb, fun _ => rfl⟩⟩
    have : b ≠ w.heap.size := fun e => by subst e; rw [hnone] at hv; cases hv
    simp only [this, if_false]; exact hv
  have hkeep : ∀ k, k < w.heap.size → ∀ o, G.dat k o = none → G'.dat k o = none := fun k hk o ho => by
    subst hG
    have : k ≠ w.heap.size := by omega
    simp only [this, if_false]; exact ho
  refine ⟨G', hle, fun o => by subst hG; simp, ⟨fun t => (h.tm t).mono hle, h.sz, h.df, fun b o v hv => ?_, fun b B hB => (h.bx b B hB).keep hle (by subst hG; rfl) (fun k hk' => ?_) (fun x k hx hk' => ?_), by subst hG; exact h.gb, by subst hG; exact h.gl, fun b b' k hk' hk2 => h.inj b b' k (by subst hG; exact hk') (by subst hG; exact hk2), hbel, ⟨fun b o hb hm => ?_, fun b o v hv => hle.dat b o v (h.low.2 b o v hv)⟩, fun gg cs hg => (h.glo gg cs hg).mono hle, h.bas⟩⟩
  · by_cases c : b = w.heap.size
    · subst c
      exact hD o v (by subst hG; simpa using hv)
    · have hv' : G.dat b o = some v := by subst hG; simpa [c] using hv
      rw [← h.dat b o v hv']
      exact World.cell?_of_block (w := w) (hold b (h.dat_lt hv'))
  · have := (h.own_lt (h.own_var hk')).2
    exact ⟨hold k this, hkeep k this⟩
  · have := (h.own_lt ((h.own_lst hx).trans hk')).2
    exact ⟨hold k this, hkeep k this⟩
  · have : b ≠ w.heap.size := by have := h.basele; omega
    subst hG
    simp only [this, if_false]
    exact h.low.1 b o hb hm

/-- The bytes of a text, as elements. -/
def byts (b : ByteArray) : List PV := b.data.toList.map fun c => .int .u8 (c.toNat : Int)
theorem byts_len (b : ByteArray) : (byts b).length = b.size := by simp [byts]
theorem OpOk.bytesOf {d : Tmp} {src t e : TypeId} {y : Operand} {ty : TypeId} {pos : String} {after : Array Edge} {gd : Option (Nat × Bool)} {i ie is : TI} {b : ByteArray} (hs0 : tiOf P src = some is) (ht : tiOf P t = some i) (hk : i.desc = .slc e) (he : tiOf P e = some ie) (hek : ie.desc = .int .u8)
    (hy : s.ev g y = .pv (.str b)) (hm : b.size ≤ maxLen) (hd : d < s.n) : OpOk P g ⟨some d, .convert src t y, ty, pos, after, gd⟩ s (s.put d (.pv (.lst 1 (byts b)))) := by
  intro cx a w G hP hg hs K Q hK
  have h1 := hs.ev hg y
  rw [hy] at h1
  obtain ⟨ds, u1, _⟩ := tiOf_und hs0
  have hconv := Lib.run_convert_string_bytes (P := P) w src t e b u1 (tiOf_slc ht hk) (tiOf_int he hek)
  have hrun : (execOp a.eval ⟨some d, .convert src t y, ty, pos, after, gd⟩).run P w = .ok (.value (.slice (some ⟨w.heap.size, 0, none⟩) b.size (grownCap w b.size 0 e))) (Lib.bytesWorld w e b) := by
    simp only [execOp, h1.str, Sem.run_bind, hconv, Result.andThen_ok, Sem.run_pure]
  have hcell : ∀ (o : Nat) v, ((byts b)[o]?).bind PV.val? = some v → (Lib.bytesWorld w e b).cell? ⟨w.heap.size, o, none⟩ = some v := by
    intro o v hv
    rw [Option.bind_eq_some_iff] at hv
    obtain ⟨p, hp, hv⟩ := hv
    have hlt : o < b.size := by rw [← byts_len]; exact (List.getElem?_eq_some_iff.1 hp).1
    rw [Lib.bytesWorld_cell w e b o hlt]
    have hlt' : o < b.data.toList.length := by simpa using hlt
    simp only [byts, List.getElem?_map, List.getElem?_eq_getElem hlt', Option.map_some] at hp
    obtain rfl := Option.some.inj hp
    simp only [PV.val?] at hv
    rw [← hv]
    have hlt2 : o < b.data.size := by simpa using hlt'
    simp only [List.getD, List.getElem?_eq_getElem hlt', Option.getD_some]
  obtain ⟨G', k1, k2, k3⟩ := hs.newDat (w' := Lib.bytesWorld w e b) (fun o => ((byts b)[o]?).bind PV.val?) (by rw [Lib.bytesWorld_size]; omega) (fun k hk => Lib.bytesWorld_at_old w e b k hk)
    (hs.bel.trans ⟨rfl, rfl, rfl, by rw [Lib.bytesWorld_size]; omega, fun k hk => Lib.bytesWorld_at_old w e b k (by have := hs.basele; omega)⟩) hcell
  unfold Oper.wp
  rw [hrun]
  have hcap := grownCap_ge w b.size 0 e
  have hcapm := grownCap_le_maxLen w b.size 0 e hm
  refine hK _ _ G' (k3.put hd (.pv _ _ ?_))
  have helem : ∀ (i : Nat) p, (byts b)[i]? = some p → ∃ n, p = .int .u8 n := fun i p hp => by
    simp only [byts, List.getElem?_map, Option.map_eq_some_iff] at hp
    obtain ⟨c, _, rfl⟩ := hp
    exact ⟨_, rfl⟩
  refine .lst 1 (byts b) _ _ _ (byts_len b).symm hcap hcapm (fun p hp => ?_) (fun p hp q hq => ?_) (fun h => by cases h) (fun ad h => by obtain rfl := Option.some.inj h; rfl) (fun ad j q p x ha hp hx => ?_) (fun ad j q p x v ha hp hx hv => ?_)
  · obtain ⟨j, hj⟩ := List.mem_iff_getElem?.1 hp
    obtain ⟨n, rfl⟩ := helem j p hj
    rfl
  · obtain ⟨j, hj⟩ := List.mem_iff_getElem?.1 hp
    obtain ⟨n, rfl⟩ := helem j p hj
    simp [PV.cells] at hq
    subst hq
    rfl
  · obtain rfl := Option.some.inj ha
    obtain ⟨n, rfl⟩ := helem j p hp
    cases q with
    | zero => exact ⟨.int .u8 n, by simp only [Nat.zero_add, Nat.mul_one, Nat.add_zero]; rw [k2, hp]; rfl⟩
    | succ q => simp [PV.cells] at hx
  · obtain rfl := Option.some.inj ha
    obtain ⟨n, rfl⟩ := helem j p hp
    cases q with
    | zero =>
      simp [PV.cells] at hx
      subst hx
      simp only [Nat.zero_add, Nat.mul_one, Nat.add_zero] at hv
      rw [k2, hp] at hv
      simp only [Option.bind_some, PV.val?] at hv
      obtain rfl := Option.some.inj hv
      exact .int _ _
    | succ q => simp [PV.cells] at hx

/-- Bytes as numbers. -/
def nums : List PV → Option (List Int)
  | [] => some []
  | .int .u8 n :: xs => (nums xs).map (n :: ·)
  | _ => none
theorem OpOk.strOf {dst : Option Tmp} {src t e : TypeId} {y : Operand} {ty : TypeId} {pos : String} {after : Array Edge} {gd : Option (Nat × Bool)} {i ie it : TI} {z : AV} {sz : Nat} {xs : List PV} {ns : List Int} {b : ByteArray} (ht : tiOf P src = some i) (hk : i.desc = .slc e) (he : tiOf P e = some ie) (hek : ie.desc = .int .u8) (htt : tiOf P t = some it) (htk : it.desc = .strg)
    (hy : s.ev g y = z) (hl : s.lstOf z = some (sz, xs)) (hn : nums xs = some ns) (hb : strOfNums ns = b) (hd : ∀ t, dst = some t → t < s.n) : OpOk P g ⟨dst, .convert src t y, ty, pos, after, gd⟩ s (s.putO dst (.pv (.str b))) := by
  refine OpOk.val (o := ⟨dst, .convert src t y, ty, pos, after, gd⟩) hd (fun cx a w G hP hg hs => ⟨.string b, ?_, .pv _ _ (.str b)⟩)
  have h3 := hs.lst (hs.ev hg y) (by rw [hy]; exact hl)
  generalize hv : a.eval y = v at h3
  have hnum : ∀ (xs : List PV) (ns : List Int), nums xs = some ns → xs = ns.map (PV.int .u8) := by
    intro xs
    induction xs with
    | nil => intro ns h; obtain rfl := Option.some.inj h; rfl
    | cons x xs ih =>
      intro ns h
      unfold nums at h
      split at h
      · rename_i heq; cases heq
      · rename_i n xs' heq
        injection heq with e1 e2
        subst e1
        subst e2
        rw [Option.map_eq_some_iff] at h
        obtain ⟨ns', h1, rfl⟩ := h
        rw [ih ns' h1]; rfl
      · cases h
  have hxs := hnum xs ns hn
  subst hxs
  subst hb
  have hconv : ∀ A n c, (convert src t (.slice A n c)).run P w = (Conv.bytesToString (.slice A n c)).run P w := fun A n c => run_convert_bytes_string w src t e A n c (tiOf_slc ht hk) (tiOf_int he hek) (tiOf_strg htt htk)
  cases h3 with
  | lst _ _ A n c hn' hc hm hz h1 hnone hspot hdat hrp =>
    have hgoal : (Conv.bytesToString (.slice A n c)).run P w = .ok (.string (strOfNums ns)) w := by
      cases A with
      | none =>
        have : ns = [] := by have := hnone rfl; simpa using this
        subst this
        rfl
      | some ad =>
        have hload : (loadCells ad n).run P w = .ok (ns.map (Value.int .u8)).toArray w := by
          have := run_loadCells_list (P := P) w ad (ns.map (Value.int .u8)) (fun j u hu => by
            rw [List.getElem?_map, Option.map_eq_some_iff] at hu
            obtain ⟨m, hm', rfl⟩ := hu
            have hp : (ns.map (PV.int .u8))[j]? = some (.int .u8 m) := by rw [List.getElem?_map, hm']; rfl
            have hsz1 : sz = 1 := (hz _ (List.mem_of_getElem? hp)).symm
            subst hsz1
            obtain ⟨u, hu⟩ := hdat ad j 0 _ _ rfl hp rfl
            have hr := hrp ad j 0 _ _ u rfl hp rfl hu
            cases hr
            rw [add_spot ad (hspot ad rfl)]
            have := hs.dat _ _ _ hu
            simpa using this)
          rw [List.length_map] at this
          rw [hn', List.length_map]
          exact this
        rw [run_bytesToString w ad n c ns hload, foldl_push_bytes]
        simp [strOfNums, ByteArray.empty, ByteArray.emptyWithCapacity]
        rfl
    simp only [execOp, hv, Sem.run_bind, hconv, hgoal, Result.andThen_ok, Sem.run_pure]
end
end Go.Proofs.YtlcmnhocicehmaaDoor.Vm

/- The value machine, eleventh part: the rules once more, for states that are written out, so that each step is found by reckoning. Conditions: none. -/
namespace Go.Proofs.YtlcmnhocicehmaaDoor.Vm
open Go Go.RowKit
set_option linter.unusedVariables false
set_option linter.unusedSimpArgs false

structure Env where
  P : Program
  g : Gb
  T : Nat → Option TI
  L : Nat → Option (List (Nat × Nat))
structure Env.Ok (E : Env) : Prop where
  t : ∀ t i, E.T t = some i → tiOf E.P t = some i
  l : ∀ t i, E.L t = some i → laysOf E.P t = some i

def takeO {α : Type} : Nat → List α → Option (List α)
  | 0, _ => some []
  | n + 1, x :: xs => match takeO n xs with
    | some l => some (x :: l)
    | none => none
  | _ + 1, [] => none
theorem takeO_ok {α : Type} : ∀ (n : Nat) (l r : List α), takeO n l = some r → r = l.take n ∧ n ≤ l.length
  | 0, l, r, h => by obtain rfl := Option.some.inj h; simp
  | n + 1, [], r, h => by cases h
  | n + 1, x :: xs, r, h => by
    simp only [takeO] at h
    split at h
    · rename_i l hl
      obtain rfl := Option.some.inj h
      obtain ⟨e1, e2⟩ := takeO_ok n xs l hl
      simp [e1, e2]
    · cases h
def dropO {α : Type} : Nat → List α → Option (List α)
  | 0, l => some l
  | n + 1, _ :: xs => dropO n xs
  | _ + 1, [] => none
theorem dropO_ok {α : Type} : ∀ (n : Nat) (l r : List α), dropO n l = some r → r = l.drop n ∧ n ≤ l.length
  | 0, l, r, h => by obtain rfl := Option.some.inj h; simp
  | n + 1, [], r, h => by cases h
  | n + 1, x :: xs, r, h => by
    simp only [dropO] at h
    obtain ⟨e1, e2⟩ := dropO_ok n xs r h
    simp [e1, e2]
def appO {α : Type} : List α → List α → Option (List α)
  | [], l => some l
  | x :: xs, l => match appO xs l with
    | some r => some (x :: r)
    | none => none
theorem appO_ok {α : Type} : ∀ (l m r : List α), appO l m = some r → r = l ++ m
  | [], m, r, h => by obtain rfl := Option.some.inj h; rfl
  | x :: xs, m, r, h => by
    simp only [appO] at h
    split at h
    · rename_i q hq
      obtain rfl := Option.some.inj h
      rw [appO_ok xs m q hq]; rfl
    · cases h
def setO {α : Type} (cs : List α) (o : Nat) (ys : List α) : Option (List α) :=
  match takeO o cs, dropO (o + ys.length) cs with
  | some a, some b => match appO ys b with
    | some c => appO a c
    | none => none
  | _, _ => none
theorem setO_ok {α : Type} {cs ys r : List α} {o : Nat} (h : setO cs o ys = some r) : setAt cs o ys = r ∧ o + ys.length ≤ cs.length := by
  unfold setO at h
  split at h
  · rename_i a b h1 h2
    split at h
    · rename_i c h3
      obtain ⟨e1, _⟩ := takeO_ok _ _ _ h1
      obtain ⟨e2, e3⟩ := dropO_ok _ _ _ h2
      have e4 := appO_ok _ _ _ h3
      have e5 := appO_ok _ _ _ h
      refine ⟨?_, e3⟩
      rw [e5, e4, e1, e2]
      simp [setAt]
    · cases h
  · cases h
def pvsO : List PV → Option (List AV)
  | [] => some []
  | x :: xs => match pvsO xs with
    | some l => some (.pv x :: l)
    | none => none
theorem pvsO_ok : ∀ (l : List PV) (r : List AV), pvsO l = some r → r = l.map .pv
  | [], r, h => by obtain rfl := Option.some.inj h; rfl
  | x :: xs, r, h => by
    simp only [pvsO] at h
    split at h
    · rename_i q hq
      obtain rfl := Option.some.inj h
      rw [pvsO_ok xs q hq]; rfl
    · cases h

def evO (E : Env) (tm : List (Nat × AV)) : Operand → Option AV
  | .tmp t => look tm t
  | .const v => AV.ofVal v
  | .global k => (E.g k).map .eptr
  | .func f => some (.clo f [])
section
variable {E : Env} {n : Nat} {tm : List (Nat × AV)} {bx : List (Nat × Box)} {ops : Array Oper} {l : List Oper} {Θ : St → Prop} {d : Tmp} {ty : TypeId} {pos : String} {after : Array Edge}
theorem evO_ok {y : Operand} {x : AV} (h : evO E tm y = some x) : St.ev ⟨n, tm, bx⟩ E.g y = x := by
  cases y with
  | tmp t => simp only [evO] at h; simp [St.ev, St.get, h]
  | const v => simp only [evO] at h; simp [St.ev, h]
  | global k =>
    simp only [evO, Option.map_eq_some_iff] at h
    obtain ⟨cs, h1, rfl⟩ := h
    simp [St.ev, h1]
  | func f => exact Option.some.inj h

def cellsO (bx : List (Nat × Box)) : AV → Option (List AV)
  | .ptr b o => match look bx b with
    | some (.var cs) => dropO o cs
    | _ => none
  | .eptr cs => pvsO cs
  | _ => none
theorem cellsO_ok {z : AV} {cs : List AV} (h : cellsO bx z = some cs) : St.cellsAt ⟨n, tm, bx⟩ z = some cs := by
  cases z with
  | ptr b o =>
    simp only [cellsO] at h
    split at h
    · rename_i cs0 h1
      simp only [St.cellsAt, h1]
      rw [(dropO_ok _ _ _ h).1]
    · cases h
  | eptr cs0 => rw [St.cellsAt, pvsO_ok _ _ h]
  | _ => cases h
def loadO (i : TI) (cs : List AV) : Option AV :=
  match aggD i.desc with
  | true => match takeO i.size cs with
    | some l => some (.agg l)
    | none => none
  | false => match cs with
    | x :: _ => some x
    | [] => none
theorem loadO_ok {i : TI} {cs : List AV} {x : AV} (h : loadO i cs = some x) : loadAV i cs = some x := by
  unfold loadO at h
  unfold loadAV
  split at h
  · rename_i ha
    rw [ha]
    split at h
    · rename_i q hq
      obtain rfl := Option.some.inj h
      obtain ⟨e1, e2⟩ := takeO_ok _ _ _ hq
      simp [Nat.ble_eq_true_of_le e2, e1]
    · cases h
  · rename_i ha
    rw [ha]
    split at h
    · obtain rfl := Option.some.inj h; rfl
    · cases h

theorem O.move {y : Operand} {x : AV} (hx : evO E tm y = some x) (hd : Nat.blt d n = true) (h : Ops E.P E.g ops l ⟨n, (d, x) :: tm, bx⟩ Θ) : Ops E.P E.g ops (⟨some d, .move y, ty, pos, after, none⟩ :: l) ⟨n, tm, bx⟩ Θ :=
  Ops.op rfl (OpOk.move (evO_ok hx) (dlt hd)) h
theorem O.assign {y : Operand} {x : AV} (hx : evO E tm y = some x) (hd : Nat.blt d n = true) (h : Ops E.P E.g ops l ⟨n, (d, x) :: tm, bx⟩ Θ) : Ops E.P E.g ops (⟨some d, .assign y, ty, pos, after, none⟩ :: l) ⟨n, tm, bx⟩ Θ :=
  Ops.op rfl (OpOk.assign (evO_ok hx) (dlt hd)) h
/-- An operation whose guard is met. -/
theorem O.yes {o : Option Tmp} {op : Op} {j t : Nat} {b want : Bool} (hj : (ops[j]?).bind (·.dst) = some t) (ht : look tm t = some (.pv (.bool b))) (hb : b = want) (h : Ops E.P E.g ops (⟨o, op, ty, pos, after, none⟩ :: l) ⟨n, tm, bx⟩ Θ) :
    Ops E.P E.g ops (⟨o, op, ty, pos, after, some (j, want)⟩ :: l) ⟨n, tm, bx⟩ Θ := by
  obtain ⟨s', h1, h2⟩ := h
  refine ⟨s', ?_, h2⟩
  intro cx a w G hP hg hs Q hQ
  have hgt : St.get ⟨n, tm, bx⟩ t = .pv (.bool b) := by simp [St.get, ht]
  have hy := yielded_of hj (hs.boolSlot hgt)
  have h3 := h1 cx a w G hP hg hs Q hQ
  unfold wpList at h3 ⊢
  rw [if_pos (by simp [Region.wanted])] at h3
  rw [if_pos (by simp [Region.wanted, hy, hb])]
  exact h3
theorem O.no {op : Op} {j t : Nat} {want : Bool} {x : AV} (hj : (ops[j]?).bind (·.dst) = some t) (ht : look tm t = some x) (hb : offB want x = true) (hd : Nat.blt d n = true) (h : Ops E.P E.g ops l ⟨n, (d, .tup []) :: tm, bx⟩ Θ) :
    Ops E.P E.g ops (⟨some d, op, ty, pos, after, some (j, want)⟩ :: l) ⟨n, tm, bx⟩ Θ :=
  Ops.no rfl hj (by simp [St.get, ht]) hb hd h
theorem O.pick {c y z : Operand} {b : Bool} {u v x : AV} (hc : evO E tm c = some (.pv (.bool b))) (hy : evO E tm y = some u) (hz : evO E tm z = some v) (hx : (match b with | true => some u | false => some v) = some x) (hd : Nat.blt d n = true) (h : Ops E.P E.g ops l ⟨n, (d, x) :: tm, bx⟩ Θ) :
    Ops E.P E.g ops (⟨some d, .pick c y z, ty, pos, after, none⟩ :: l) ⟨n, tm, bx⟩ Θ :=
  Ops.op rfl (OpOk.pick (evO_ok hc) (by rw [evO_ok hy, evO_ok hz]; cases b <;> exact Option.some.inj hx) (dlt hd)) h
def flO (E : Env) (tm : List (Nat × AV)) (x : Operand) : Value := ((evO E tm x).bind AV.flat?).getD undef
def flatsO (E : Env) (tm : List (Nat × AV)) : List Operand → Bool
  | [] => true
  | x :: xs => ((evO E tm x).bind AV.flat?).isSome && flatsO E tm xs
theorem flatsO_ok : ∀ (xs : List Operand), flatsO E tm xs = true → flats ⟨n, tm, bx⟩ E.g xs = true ∧ ∀ x ∈ xs, St.fl ⟨n, tm, bx⟩ E.g x = flO E tm x
  | [], _ => ⟨rfl, fun x hx => by simp at hx⟩
  | x :: xs, h => by
    simp only [flatsO, Bool.and_eq_true] at h
    obtain ⟨e1, e2⟩ := flatsO_ok xs h.2
    obtain ⟨u, hu⟩ := Option.isSome_iff_exists.1 h.1
    rw [Option.bind_eq_some_iff] at hu
    obtain ⟨y, hy, hu⟩ := hu
    have hev : St.ev ⟨n, tm, bx⟩ E.g x = y := evO_ok hy
    refine ⟨by simp [flats, hev, hu, e1], fun z hz => ?_⟩
    cases hz with
    | head => simp [St.fl, flO, hev, hy, hu]
    | tail _ hz => exact e2 z hz
/-- A scalar operation: as the model reckons it. -/
theorem O.now {op : Op} {v : Value} {x : AV} (hsel : ∀ cs b, op ≠ .select cs b) (hl : flatsO E tm op.operands.toList = true) (hn : Vm.now E.P (execOp (flO E tm) ⟨some d, op, ty, pos, after, none⟩) = some (.value v)) (hx : AV.ofVal v = some x) (hd : Nat.blt d n = true)
    (h : Ops E.P E.g ops l ⟨n, (d, x) :: tm, bx⟩ Θ) : Ops E.P E.g ops (⟨some d, op, ty, pos, after, none⟩ :: l) ⟨n, tm, bx⟩ Θ := by
  obtain ⟨e1, e2⟩ := flatsO_ok (n := n) (bx := bx) _ hl
  refine Ops.op rfl (OpOk.now hsel e1 ?_ hx (dlt hd)) h
  rw [← hn]
  congr 1
  exact execOp_congr _ hsel fun y hy => e2 y (by simpa using hy)
/-- A scalar operation of two numbers, of texts, of truths. -/
theorem O.bin {b : BinOp} {t t' : TypeId} {y z : Operand} {p q : PV} {u u' v : Value} {x : AV} (hy : evO E tm y = some (.pv p)) (hz : evO E tm z = some (.pv q)) (hp : p.val? = some u) (hq : q.val? = some u') (hn : Vm.now E.P (do eqGuard b t y z u u'; Go.binOp b t u u') = some v) (hx : AV.ofVal v = some x) (hd : Nat.blt d n = true)
    (h : Ops E.P E.g ops l ⟨n, (d, x) :: tm, bx⟩ Θ) : Ops E.P E.g ops (⟨some d, .binOp b t y z t', ty, pos, after, none⟩ :: l) ⟨n, tm, bx⟩ Θ := by
  refine Ops.op rfl (OpOk.val (o := ⟨some d, .binOp b t y z t', ty, pos, after, none⟩) (dlt hd) (fun cx a w G hP hg hs => ⟨v, ?_, RA.ofVal hx⟩)) h
  have h1 := hs.ev hg y
  have h2 := hs.ev hg z
  rw [evO_ok hy] at h1
  rw [evO_ok hz] at h2
  have e1 : a.eval y = u := h1.of_val hp
  have e2 : a.eval z = u' := h2.of_val hq
  have := now_run _ w hn
  simp only [execOp, e1, e2]
  rw [Sem.run_bind (P := E.P) (w := w)]
  refine Eq.trans (congrArg (fun r => Result.andThen r _) this) ?_
  rfl
theorem O.un {b : UnOp} {t : TypeId} {y : Operand} {p : PV} {u v : Value} {x : AV} (hy : evO E tm y = some (.pv p)) (hp : p.val? = some u) (hn : Vm.now E.P (Op.unary b u) = some v) (hx : AV.ofVal v = some x) (hd : Nat.blt d n = true)
    (h : Ops E.P E.g ops l ⟨n, (d, x) :: tm, bx⟩ Θ) : Ops E.P E.g ops (⟨some d, .unOp b t y, ty, pos, after, none⟩ :: l) ⟨n, tm, bx⟩ Θ := by
  refine Ops.op rfl (OpOk.val (o := ⟨some d, .unOp b t y, ty, pos, after, none⟩) (dlt hd) (fun cx a w G hP hg hs => ⟨v, ?_, RA.ofVal hx⟩)) h
  have h1 := hs.ev hg y
  rw [evO_ok hy] at h1
  have e1 : a.eval y = u := h1.of_val hp
  have := now_run _ w hn
  simp only [execOp, e1, Sem.run_bind, this, Result.andThen_ok, Sem.run_pure]
/-- A number turned into another kind. -/
theorem O.conv {sr t : TypeId} {y : Operand} {k k' : IntKind} {m : Int} {i is : TI} (hE : E.Ok) (hs0 : E.T sr = some is) (ht : E.T t = some i) (hk : i.desc = .int k') (hy : evO E tm y = some (.pv (.int k m))) (hd : Nat.blt d n = true)
    (h : Ops E.P E.g ops l ⟨n, (d, .pv (.int k' (k'.wrap m))) :: tm, bx⟩ Θ) : Ops E.P E.g ops (⟨some d, .convert sr t y, ty, pos, after, none⟩ :: l) ⟨n, tm, bx⟩ Θ := by
  refine Ops.op rfl (OpOk.val (o := ⟨some d, .convert sr t y, ty, pos, after, none⟩) (dlt hd) (fun cx a w G hP hg hs => ⟨.int k' (k'.wrap m), ?_, .pv _ _ (.int _ _)⟩)) h
  have h1 := hs.ev hg y
  rw [evO_ok hy] at h1
  obtain ⟨ds, u1, _⟩ := tiOf_und (hE.t _ _ hs0)
  have u2 := tiOf_int (hE.t _ _ ht) hk
  have : (convert sr t (.int k m)).run E.P w = .ok (.int k' (k'.wrap m)) w := by
    unfold convert
    rw [Sem.run_bind, run_underlying u1 w]
    simp only [Result.andThen_ok]
    rw [Sem.run_bind, run_underlying u2 w]
    simp only [Result.andThen_ok]
    rfl
  simp only [execOp, h1.int, Sem.run_bind, this, Result.andThen_ok, Sem.run_pure]

def fresh : List (Nat × Box) → Nat
  | [] => 0
  | (b, _) :: l => Nat.max (b + 1) (fresh l)
theorem O.box {t : TypeId} {y : Operand} {z : AV} {cs : List AV} (b : Nat) (hy : evO E tm y = some z) (hc : z.cells? = some cs) (hb : look bx b = none) (hd : Nat.blt d n = true) (h : Ops E.P E.g ops l ⟨n, (d, .ptr b 0) :: tm, (b, .var cs) :: bx⟩ Θ) (hln : inN E.g.ln b = false := by rfl) :
    Ops E.P E.g ops (⟨some d, .box t y, ty, pos, after, none⟩ :: l) ⟨n, tm, bx⟩ Θ :=
  Ops.op rfl (OpOk.box b (evO_ok hy) hc hb hln (Vm.blt hd)) h
theorem O.alloc {t : TypeId} {i : TI} {cs : List AV} (hE : E.Ok) (b : Nat) (ht : E.T t = some i) (hc : pvsO i.zero = some cs) (hb : look bx b = none) (hd : Nat.blt d n = true) (h : Ops E.P E.g ops l ⟨n, (d, .ptr b 0) :: tm, (b, .var cs) :: bx⟩ Θ) (hln : inN E.g.ln b = false := by rfl) :
    Ops E.P E.g ops (⟨some d, .alloc t, ty, pos, after, none⟩ :: l) ⟨n, tm, bx⟩ Θ := by
  refine Ops.op rfl (OpOk.alloc b (hE.t _ _ ht) hb hln (Vm.blt hd)) ?_
  rw [pvsO_ok _ _ hc] at h
  exact h
theorem O.load {t : TypeId} {y : Operand} {i : TI} {z x : AV} {cs : List AV} (hE : E.Ok) (ht : E.T t = some i) (hy : evO E tm y = some z) (hc : cellsO bx z = some cs) (hx : loadO i cs = some x) (hd : Nat.blt d n = true) (h : Ops E.P E.g ops l ⟨n, (d, x) :: tm, bx⟩ Θ) :
    Ops E.P E.g ops (⟨some d, .load t y, ty, pos, after, none⟩ :: l) ⟨n, tm, bx⟩ Θ :=
  Ops.op rfl (OpOk.load (hE.t _ _ ht) (evO_ok hy) (cellsO_ok hc) (loadO_ok hx) (dlt hd)) h
theorem O.store {t : TypeId} {y x : Operand} {i : TI} {b o : Nat} {z : AV} {cs ys cs' : List AV} (hE : E.Ok) (ht : E.T t = some i) (hy : evO E tm y = some (.ptr b o)) (hx : evO E tm x = some z) (hz : z.cells? = some ys) (hb : look bx b = some (.var cs)) (hn : Nat.beq ys.length i.size = true) (hcs : setO cs o ys = some cs')
    (h : Ops E.P E.g ops l ⟨n, tm, (b, .var cs') :: bx⟩ Θ) : Ops E.P E.g ops (⟨none, .store t y x, ty, pos, after, none⟩ :: l) ⟨n, tm, bx⟩ Θ := by
  obtain ⟨e1, e2⟩ := setO_ok hcs
  exact Ops.op rfl (OpOk.store (hE.t _ _ ht) (evO_ok hy) (evO_ok hx) hz hb (Nat.eq_of_beq_eq_true hn) (Nat.ble_eq_true_of_le e2) e1) h
def offO (k : Nat) : AV → Option AV
  | .ptr b o => some (.ptr b (o + k))
  | .eptr cs => match dropO k cs with
    | some l => some (.eptr l)
    | none => none
  | _ => none
theorem offO_ok {k : Nat} {z x : AV} (h : offO k z = some x) : z.off k = some x := by
  cases z with
  | ptr b o => exact h
  | eptr cs =>
    simp only [offO] at h
    split at h
    · rename_i q hq
      obtain rfl := Option.some.inj h
      rw [(dropO_ok _ _ _ hq).1]; rfl
    · cases h
  | _ => cases h
theorem O.field {t : TypeId} {y : Operand} {f : Nat} {ls : List (Nat × Nat)} {k m : Nat} {z x : AV} (hE : E.Ok) (hl : E.L t = some ls) (hf : ls[f]? = some (k, m + 1)) (hy : evO E tm y = some z) (hx : offO k z = some x) (hd : Nat.blt d n = true) (h : Ops E.P E.g ops l ⟨n, (d, x) :: tm, bx⟩ Θ) :
    Ops E.P E.g ops (⟨some d, .fieldAddr t y f, ty, pos, after, none⟩ :: l) ⟨n, tm, bx⟩ Θ :=
  Ops.op rfl (OpOk.fieldAddr (hE.l _ _ hl) hf (evO_ok hy) (offO_ok hx) (dlt hd)) h
def lstO (bx : List (Nat × Box)) : AV → Option (Nat × List PV)
  | .pv (.lst sz xs) => some (sz, xs)
  | .gl b _ => match look bx b with
    | some (.lst _ sz xs) => some (sz, xs)
    | _ => none
  | .pv .nil => some (0, [])
  | _ => none
/-- A slice's handle is the newest one: it has all. -/
def newest (bx : List (Nat × Box)) : AV → Prop
  | .gl b m => ∀ e sz xs, look bx b = some (.lst e sz xs) → m = xs.length
  | _ => True
theorem lstO_ok {z : AV} {q : Nat × List PV} (h : lstO bx z = some q) (hn : newest bx z) : St.lstOf ⟨n, tm, bx⟩ z = some q := by
  cases z with
  | pv p => cases p <;> simp only [lstO] at h <;> first | exact h | cases h
  | gl b m =>
    simp only [lstO] at h
    split at h
    · rename_i e sz xs hb
      have := hn e sz xs hb
      obtain rfl := Option.some.inj h
      simp only [St.lstOf, hb, this, List.take_length]
    · cases h
  | _ => cases h
theorem newest_pv {p : PV} : newest bx (.pv p) := trivial
theorem newest_gl {b m e sz : Nat} {xs : List PV} (h : look bx b = some (.lst e sz xs)) (hm : m = xs.length) : newest bx (.gl b m) := fun e' sz' xs' h' => by rw [h] at h'; injection h' with h'; injection h' with _ _ h'; rw [← h']; exact hm
theorem O.lenLst {t e : TypeId} {y : Operand} {i : TI} {z : AV} {q : Nat × List PV} (hE : E.Ok) (ht : E.T t = some i) (hk : i.desc = .slc e) (hy : evO E tm y = some z) (hl : lstO bx z = some q) (hn : newest bx z) (hd : Nat.blt d n = true) (h : Ops E.P E.g ops l ⟨n, (d, .pv (.int .i64 q.2.length)) :: tm, bx⟩ Θ) :
    Ops E.P E.g ops (⟨some d, .call { callee := .builtin .len, args := #[y], argTypes := #[t] }, ty, pos, after, none⟩ :: l) ⟨n, tm, bx⟩ Θ :=
  Ops.op rfl (OpOk.lenLst (hE.t _ _ ht) hk (evO_ok hy) (lstO_ok hl hn) rfl (dlt hd)) h
theorem O.lenStr {t : TypeId} {y : Operand} {i : TI} {b : ByteArray} (hE : E.Ok) (ht : E.T t = some i) (hk : i.desc = .strg) (hy : evO E tm y = some (.pv (.str b))) (hd : Nat.blt d n = true) (h : Ops E.P E.g ops l ⟨n, (d, .pv (.int .i64 b.size)) :: tm, bx⟩ Θ) :
    Ops E.P E.g ops (⟨some d, .call { callee := .builtin .len, args := #[y], argTypes := #[t] }, ty, pos, after, none⟩ :: l) ⟨n, tm, bx⟩ Θ :=
  Ops.op rfl (OpOk.lenStr (hE.t _ _ ht) hk (evO_ok hy) rfl (dlt hd)) h
theorem O.index {t e : TypeId} {y ix : Operand} {i ie : TI} {z : AV} {q : Nat × List PV} {k : IntKind} {m : Int} {el : PV} {cs : List PV} (hE : E.Ok) (ht : E.T t = some i) (hk : i.desc = .slc e) (he : E.T e = some ie) (hy : evO E tm y = some z) (hl : lstO bx z = some q) (hn : newest bx z) (hix : evO E tm ix = some (.pv (.int k m)))
    (h0 : 0 ≤ m) (hel : q.2[m.toNat]? = some el) (hsz : q.1 = ie.size) (hcs : el.cells = cs) (hd : Nat.blt d n = true) (h : Ops E.P E.g ops l ⟨n, (d, .eptr cs) :: tm, bx⟩ Θ) :
    Ops E.P E.g ops (⟨some d, .indexAddr t y ix, ty, pos, after, none⟩ :: l) ⟨n, tm, bx⟩ Θ :=
  Ops.op rfl (OpOk.indexLst (hE.t _ _ ht) hk (hE.t _ _ he) (evO_ok hy) (lstO_ok hl hn) (evO_ok hix) h0 hel hsz hcs (dlt hd)) h
theorem O.indexA {t e : TypeId} {y ix : Operand} {i ie : TI} {z x : AV} {len : Nat} {k : IntKind} {m : Int} {o : Nat} (hE : E.Ok) (ht : E.T t = some i) (hk : i.desc = .arr len e) (he : E.T e = some ie) (hy : evO E tm y = some z) (hix : evO E tm ix = some (.pv (.int k m))) (h0 : 0 ≤ m) (hm : m < len) (ho : m.toNat * ie.size = o) (hx : z.off o = some x)
    (hd : Nat.blt d n = true) (h : Ops E.P E.g ops l ⟨n, (d, x) :: tm, bx⟩ Θ) : Ops E.P E.g ops (⟨some d, .indexAddr t y ix, ty, pos, after, none⟩ :: l) ⟨n, tm, bx⟩ Θ :=
  Ops.op rfl (OpOk.indexArr (hE.t _ _ ht) hk (hE.t _ _ he) (evO_ok hy) (evO_ok hix) h0 hm ho hx (dlt hd)) h
theorem O.indexS {t : TypeId} {y ix : Operand} {i : TI} {b : ByteArray} {k : IntKind} {m : Int} {c : UInt8} (hE : E.Ok) (ht : E.T t = some i) (hk : i.desc = .strg) (hy : evO E tm y = some (.pv (.str b))) (hix : evO E tm ix = some (.pv (.int k m))) (h0 : 0 ≤ m) (hc : b[m.toNat]? = some c) (hd : Nat.blt d n = true)
    (h : Ops E.P E.g ops l ⟨n, (d, .pv (.int .u8 c.toNat)) :: tm, bx⟩ Θ) : Ops E.P E.g ops (⟨some d, .index t y ix, ty, pos, after, none⟩ :: l) ⟨n, tm, bx⟩ Θ :=
  Ops.op rfl (OpOk.indexStr (hE.t _ _ ht) hk (evO_ok hy) (evO_ok hix) h0 hc (dlt hd)) h
theorem O.extract {y : Operand} {j : Nat} {xs : List AV} {x : AV} (hy : evO E tm y = some (.tup xs)) (hx : xs[j]? = some x) (hd : Nat.blt d n = true) (h : Ops E.P E.g ops l ⟨n, (d, x) :: tm, bx⟩ Θ) :
    Ops E.P E.g ops (⟨some d, .extract y j, ty, pos, after, none⟩ :: l) ⟨n, tm, bx⟩ Θ :=
  Ops.op rfl (OpOk.extract (evO_ok hy) hx (dlt hd)) h
def bndO (E : Env) (tm : List (Nat × AV)) (dd : Int) : Option Operand → Option Int
  | none => some dd
  | some x => match evO E tm x with
    | some (.pv (.int _ m)) => some m
    | _ => none
theorem bndO_ok {dd m : Int} {x : Option Operand} (h : bndO E tm dd x = some m) : bnd ⟨n, tm, bx⟩ E.g dd x = some m := by
  cases x with
  | none => exact h
  | some x =>
    simp only [bndO] at h
    split at h
    · rename_i k m' hx
      simp only [bnd, evO_ok hx]; exact h
    · cases h
theorem O.slice {t e : TypeId} {y : Operand} {lo hi : Option Operand} {i ie : TI} {z : AV} {q : Nat × List PV} {ys : List PV} {a b : Int} (hE : E.Ok) (ht : E.T t = some i) (hk : i.desc = .slc e) (he : E.T e = some ie) (hy : evO E tm y = some z) (hl : lstO bx z = some q) (hn : newest bx z) (hsz : q.1 = ie.size) (hlo : bndO E tm 0 lo = some a) (hhi : bndO E tm q.2.length hi = some b)
    (h0 : 0 ≤ a) (h1 : a ≤ b) (h2 : b ≤ q.2.length) (hys : (q.2.take b.toNat).drop a.toNat = ys) (hd : Nat.blt d n = true) (h : Ops E.P E.g ops l ⟨n, (d, .pv (.lst q.1 ys)) :: tm, bx⟩ Θ) : Ops E.P E.g ops (⟨some d, .slice t y lo hi none, ty, pos, after, none⟩ :: l) ⟨n, tm, bx⟩ Θ :=
  Ops.op rfl (OpOk.sliceLst (hE.t _ _ ht) hk (hE.t _ _ he) (evO_ok hy) (lstO_ok hl hn) hsz (bndO_ok hlo) (bndO_ok hhi) h0 h1 h2 hys (dlt hd)) h
theorem O.sliceS {t : TypeId} {y : Operand} {lo hi : Option Operand} {i : TI} {s s' : ByteArray} {a b : Int} (hE : E.Ok) (ht : E.T t = some i) (hk : i.desc = .strg) (hy : evO E tm y = some (.pv (.str s))) (hlo : bndO E tm 0 lo = some a) (hhi : bndO E tm s.size hi = some b)
    (h0 : 0 ≤ a) (h1 : a ≤ b) (h2 : b ≤ s.size) (hys : s.extract a.toNat b.toNat = s') (hd : Nat.blt d n = true) (h : Ops E.P E.g ops l ⟨n, (d, .pv (.str s')) :: tm, bx⟩ Θ) : Ops E.P E.g ops (⟨some d, .slice t y lo hi none, ty, pos, after, none⟩ :: l) ⟨n, tm, bx⟩ Θ :=
  Ops.op rfl (OpOk.sliceStr (hE.t _ _ ht) hk (evO_ok hy) (bndO_ok hlo) (bndO_ok hhi) h0 h1 h2 hys (dlt hd)) h
def fillO (E : Env) (place : Nat → Option (Nat × Nat)) (tm : List (Nat × AV)) (cells : List AV) : List (Nat × Operand) → Option (List AV)
  | [] => some cells
  | (i, x) :: rest => match place i, (evO E tm x).bind AV.cells? with
    | some (off, size), some ys => match Nat.beq ys.length size, setO cells off ys with
      | true, some c => fillO E place tm c rest
      | _, _ => none
    | _, _ => none
theorem fillO_ok {place : Nat → Option (Nat × Nat)} : ∀ (ps : List (Nat × Operand)) (cells r : List AV), fillO E place tm cells ps = some r → fillAV place ⟨n, tm, bx⟩ E.g cells ps = some r
  | [], cells, r, h => h
  | (i, x) :: rest, cells, r, h => by
    simp only [fillO] at h
    split at h
    · rename_i off size ys h1 h2
      split at h
      · rename_i c h3 h4
        rw [Option.bind_eq_some_iff] at h2
        obtain ⟨y, hy, h2⟩ := h2
        obtain ⟨e1, e2⟩ := setO_ok h4
        have hev : St.ev ⟨n, tm, bx⟩ E.g x = y := evO_ok hy
        simp only [fillAV, h1, hev, h2, h3, Nat.ble_eq_true_of_le e2, Bool.and_self, cond_true, e1]
        exact fillO_ok rest c r h
      · cases h
    · cases h
theorem O.build {t : TypeId} {parts : Array (Nat × Operand)} {i : TI} {ls : List (Nat × Nat)} {zs cs : List AV} (hE : E.Ok) (ht : E.T t = some i) (hl : E.L t = some ls) (hz : pvsO i.zero = some zs) (hf : fillO E (fun j => ls[j]?) tm zs parts.toList = some cs) (hd : Nat.blt d n = true)
    (h : Ops E.P E.g ops l ⟨n, (d, .agg cs) :: tm, bx⟩ Θ) : Ops E.P E.g ops (⟨some d, .build t parts, ty, pos, after, none⟩ :: l) ⟨n, tm, bx⟩ Θ :=
  Ops.op rfl (OpOk.build (hE.t _ _ ht) (hE.l _ _ hl) (by rw [← pvsO_ok _ _ hz]; exact fillO_ok _ _ _ hf) (dlt hd)) h
/-- The element that a value becomes. -/
def pub1O (bx : List (Nat × Box)) : AV → Option PV
  | .pv p => match p.one with
    | true => some p
    | false => none
  | .gl b m => match look bx b with
    | some (.lst _ sz xs) => some (.lst sz (xs.take m))
    | _ => none
  | _ => none
def pubsO (bx : List (Nat × Box)) : List AV → Option (List PV)
  | [] => some []
  | x :: xs => match pub1O bx x, pubsO bx xs with
    | some p, some ps => some (p :: ps)
    | _, _ => none
def pubO (bx : List (Nat × Box)) : AV → Option PV
  | .agg cs => match pubsO bx cs with
    | some ps => some (.agg ps)
    | none => none
  | .pv p => some p
  | .gl b m => match look bx b with
    | some (.lst _ sz xs) => some (.lst sz (xs.take m))
    | _ => none
  | _ => none
theorem pub1O_ok {x : AV} {p : PV} (h : pub1O bx x = some p) : St.pub1? ⟨n, tm, bx⟩ x = some p := by
  cases x with
  | pv q =>
    simp only [pub1O] at h
    split at h
    · rename_i hq; simp only [St.pub1?, hq, cond_true]; exact h
    · cases h
  | gl b m =>
    simp only [pub1O] at h
    split at h
    · rename_i e sz xs hb; simp only [St.pub1?, St.lstOf, hb, Option.map_some]; exact h
    · cases h
  | _ => cases h
theorem pubsO_ok : ∀ {xs : List AV} {ps : List PV}, pubsO bx xs = some ps → pubs? ⟨n, tm, bx⟩ xs = some ps
  | [], ps, h => h
  | x :: xs, ps, h => by
    simp only [pubsO] at h
    split at h
    · rename_i p ps' h1 h2
      simp only [pubs?, pub1O_ok h1, pubsO_ok h2]; exact h
    · cases h
theorem pubO_ok {x : AV} {p : PV} (h : pubO bx x = some p) : St.pub? ⟨n, tm, bx⟩ x = some p := by
  cases x with
  | pv q => exact h
  | agg cs =>
    simp only [pubO] at h
    split at h
    · rename_i ps hps; simp only [St.pub?, pubsO_ok hps, Option.map_some]; exact h
    · cases h
  | gl b m =>
    simp only [pubO] at h
    split at h
    · rename_i e sz xs hb; simp only [St.pub?, St.lstOf, hb, Option.map_some]; exact h
    · cases h
  | _ => cases h
def elemsO (E : Env) (bx : List (Nat × Box)) (tm : List (Nat × AV)) (sz : Nat) : Nat → List (Nat × Operand) → Option (List PV)
  | _, [] => some []
  | k, (i, x) :: rest => match (evO E tm x).bind (pubO bx), elemsO E bx tm sz (k + 1) rest with
    | some p, some ps => match Nat.beq i k && Nat.beq p.cells.length sz && p.cells.all PV.one with
      | true => some (p :: ps)
      | false => none
    | _, _ => none
theorem elemsO_ok {sz : Nat} : ∀ (ps : List (Nat × Operand)) (k : Nat) (r : List PV), elemsO E bx tm sz k ps = some r → elems ⟨n, tm, bx⟩ E.g sz k ps = some r
  | [], k, r, h => h
  | (i, x) :: rest, k, r, h => by
    simp only [elemsO] at h
    split at h
    · rename_i p ps' h1 h2
      split at h
      · rename_i hb
        rw [Option.bind_eq_some_iff] at h1
        obtain ⟨y, hy, h1⟩ := h1
        have hev : St.ev ⟨n, tm, bx⟩ E.g x = y := evO_ok hy
        simp only [elems, hev, pubO_ok h1, elemsO_ok rest _ _ h2, hb, cond_true]; exact h
      · cases h
    · cases h
theorem O.lit {t e : TypeId} {len : Nat} {parts : Array (Nat × Operand)} {i ie : TI} {xs : List PV} (hE : E.Ok) (b : Nat) (ht : E.T t = some i) (hk : i.desc = .slc e) (he : E.T e = some ie) (hz : Nat.beq ie.zero.length ie.size = true) (hpos : Nat.blt 0 ie.size = true) (hel : elemsO E bx tm ie.size 0 parts.toList = some xs) (hlen : Nat.beq len parts.toList.length = true) (hlen2 : Nat.beq len xs.length = true)
    (hbig : Nat.ble (len * ie.size) 16777216 = true) (hb : look bx b = none) (hd : Nat.blt d n = true) (h : Ops E.P E.g ops l ⟨n, (d, .gl b xs.length) :: tm, (b, .lst e ie.size xs) :: bx⟩ Θ) : Ops E.P E.g ops (⟨some d, .buildSlice t len parts, ty, pos, after, none⟩ :: l) ⟨n, tm, bx⟩ Θ :=
  Ops.op rfl (OpOk.buildSlice b (hE.t _ _ ht) hk (hE.t _ _ he) hz hpos (elemsO_ok _ _ _ hel) hlen hlen2 hbig hb (Vm.blt hd)) h
theorem O.append {t e : TypeId} {y x : Operand} {i ie : TI} {b m sz : Nat} {xs zs : List PV} {z : AV} {q : Nat × List PV} (hE : E.Ok) (ht : E.T t = some i) (hk : i.desc = .slc e) (he : E.T e = some ie) (hy : evO E tm y = some (.gl b m)) (hb : look bx b = some (.lst e sz xs)) (hm : m = xs.length) (hx : evO E tm x = some z) (hl : lstO bx z = some q) (hn : newest bx z) (hsz : q.1 = sz) (hsz2 : sz = ie.size)
    (hz : Nat.beq ie.zero.length ie.size = true) (hpos : Nat.blt 0 ie.size = true) (hb1 : (xs.length + q.2.length) * ie.bytes ≤ 140737488355328) (hb2 : xs.length + q.2.length ≤ maxLen) (hzs : xs ++ q.2 = zs) (hd : Nat.blt d n = true) (h : Ops E.P E.g ops l ⟨n, (d, .gl b zs.length) :: tm, (b, .lst e sz zs) :: bx⟩ Θ) :
    Ops E.P E.g ops (⟨some d, .call { callee := .builtin .append, args := #[y, x], argTypes := #[t, t] }, ty, pos, after, none⟩ :: l) ⟨n, tm, bx⟩ Θ := by
  subst hsz
  exact Ops.op rfl (OpOk.append (hE.t _ _ ht) hk (hE.t _ _ he) (evO_ok hy) hb hm (evO_ok hx) (lstO_ok hl hn) hsz2 (Nat.eq_of_beq_eq_true hz) (Nat.le_of_ble_eq_true hpos) hb1 hb2 hzs (Vm.blt hd)) h
theorem O.bytes {sr t e : TypeId} {y : Operand} {i ie is : TI} {b : ByteArray} (hE : E.Ok) (hs0 : E.T sr = some is) (ht : E.T t = some i) (hk : i.desc = .slc e) (he : E.T e = some ie) (hek : ie.desc = .int .u8) (hy : evO E tm y = some (.pv (.str b))) (hm : b.size ≤ maxLen) (hd : Nat.blt d n = true) (h : Ops E.P E.g ops l ⟨n, (d, .pv (.lst 1 (byts b))) :: tm, bx⟩ Θ) :
    Ops E.P E.g ops (⟨some d, .convert sr t y, ty, pos, after, none⟩ :: l) ⟨n, tm, bx⟩ Θ :=
  Ops.op rfl (OpOk.bytesOf (hE.t _ _ hs0) (hE.t _ _ ht) hk (hE.t _ _ he) hek (evO_ok hy) hm (Vm.blt hd)) h
theorem O.str {sr t e : TypeId} {y : Operand} {i ie it : TI} {z : AV} {q : Nat × List PV} {ns : List Int} {b : ByteArray} (hE : E.Ok) (ht : E.T sr = some i) (hk : i.desc = .slc e) (he : E.T e = some ie) (hek : ie.desc = .int .u8) (htt : E.T t = some it) (htk : it.desc = .strg) (hy : evO E tm y = some z) (hl : lstO bx z = some q) (hn : newest bx z) (hns : nums q.2 = some ns) (hb : strOfNums ns = b)
    (hd : Nat.blt d n = true) (h : Ops E.P E.g ops l ⟨n, (d, .pv (.str b)) :: tm, bx⟩ Θ) : Ops E.P E.g ops (⟨some d, .convert sr t y, ty, pos, after, none⟩ :: l) ⟨n, tm, bx⟩ Θ :=
  Ops.op rfl (OpOk.strOf (hE.t _ _ ht) hk (hE.t _ _ he) hek (hE.t _ _ htt) htk (evO_ok hy) (lstO_ok hl hn) hns hb (dlt hd)) h

/-- A function that may be called, and its contract. -/
structure FnC (E : Env) (f : FuncId) (args : List AV) (r : AV) (bs : List (Nat × Box)) : Prop where
  ok : FnOk E.P E.g f args r bs
  fn : ∃ fn, E.P.funcs[f]? = some fn ∧ (fn.name == "runtime.NumGoroutine") = false ∧ fn.body.isSome = true
theorem O.call {f : FuncId} {xs : Array Operand} {ts : Array TypeId} {args : List AV} {r r' : AV} {bs bs' bs2 : List (Nat × Box)} (k : Nat) (hc : FnC E f args r bs) (hargs : AVles ⟨n, tm, bx⟩ (xs.toList.map (St.ev ⟨n, tm, bx⟩ E.g)) args) (hcl : closed args = true) (hk : freeB k bx bs = true) (hdr : d2 r = true) (hdb : dBs bs = true) (hd : Nat.blt d n = true)
    (hr : sh3 k r = r') (hbs : shBs k bs ++ bx = bs2) (h : Ops E.P E.g ops l ⟨n, (d, r') :: tm, bs2⟩ Θ) (hkl : lnFree k E.g.ln bs = true := by rfl) : Ops E.P E.g ops (⟨some d, .call { callee := .value (.func f), args := xs, argTypes := ts }, ty, pos, after, none⟩ :: l) ⟨n, tm, bx⟩ Θ := by
  obtain ⟨fn, h1, h2, h3⟩ := hc.fn
  subst hr
  subst hbs
  exact Ops.op rfl (OpOk.call k hc.ok h1 h2 h3 hargs hcl hk hkl hdr hdb (Vm.blt hd)) h
theorem O.nil (h : Θ ⟨n, tm, bx⟩) : Ops E.P E.g ops [] ⟨n, tm, bx⟩ Θ := Ops.nil h
end
end Go.Proofs.YtlcmnhocicehmaaDoor.Vm

/- The value machine, twelfth part: a region whose order is drawn: operations that do not touch one another may come in any order. Conditions: none. -/
namespace Go.Proofs.YtlcmnhocicehmaaDoor.Vm
open Go Go.RowKit
set_option linter.unusedVariables false
set_option linter.unusedSimpArgs false

/-- What one operation reads and does. -/
structure Rec where
  rt : List (Nat × AV)
  rb : List (Nat × Box)
  nb : List Nat
  d : Option Tmp
  x : AV
  ub : List (Nat × Box)
def Rec.app (r : Rec) (s : St) : St := ⟨s.n, match r.d with | some d => (d, r.x) :: s.tm | none => s.tm, r.ub ++ s.bx⟩
/-- The state holds what the operation reads. -/
structure Rec.Met (r : Rec) (s : St) : Prop where
  t : ∀ p ∈ r.rt, look s.tm p.1 = some p.2
  b : ∀ p ∈ r.rb, look s.bx p.1 = some p.2
  n : ∀ b ∈ r.nb, look s.bx b = none
  d : ∀ t, r.d = some t → t < s.n
def LocalOk (P : Program) (g : Gb) (o : Oper) (r : Rec) : Prop := ∀ s, r.Met s → OpOk P g o s (r.app s)
inductive RecOk (P : Program) (g : Gb) (ops : Array Oper) (o : Oper) (r : Rec) : Prop
  | plain (hg : o.guard = none) (hd : o.dst = r.d) (h : LocalOk P g o r)
  | yes (j t : Nat) (b want : Bool) (hg : o.guard = some (j, want)) (hd : o.dst = r.d) (hj : (ops[j]?).bind (·.dst) = some t) (ht : (t, .pv (.bool b)) ∈ r.rt) (hb : b = want) (h : LocalOk P g o r)
  | no (j t : Nat) (x : AV) (want : Bool) (hg : o.guard = some (j, want)) (hd : o.dst = r.d) (hj : (ops[j]?).bind (·.dst) = some t) (ht : (t, x) ∈ r.rt) (hb : offB want x = true) (hx : r.x = .tup []) (hu : r.ub = [])
/-- The state when those operations have been. -/
def stOf (S : Nat → Bool) : Nat → List Rec → St → St
  | _, [], s => s
  | k, r :: rs, s => stOf S (k + 1) rs (if S k = true then r.app s else s)
/-- Two states that read the same. -/
def Alike (s s' : St) : Prop := s.n = s'.n ∧ (∀ t, look s.tm t = look s'.tm t) ∧ ∀ b, look s.bx b = look s'.bx b
theorem Alike.refl (s : St) : Alike s s := ⟨rfl, fun _ => rfl, fun _ => rfl⟩
theorem SR.alike {cx : Cx} {s s' : St} {a : Act} {w : World} {G : Gh} (h : SR cx s a w G) (ha : Alike s s') : SR cx s' a w G :=
  ⟨fun t => by have := h.tm t; unfold St.get at this ⊢; rw [← ha.2.1]; exact this, by rw [← ha.1]; exact h.sz, h.df, h.dat, fun b B hB => h.bx b B (by rw [ha.2.2]; exact hB), fun b k hk => by rw [← ha.2.2]; exact h.gb b k hk, fun b x hx => by rw [← ha.2.2]; exact h.gl b x hx, h.inj, h.bel, h.low, h.glo, h.bas⟩
theorem SR.drew {cx : Cx} {s : St} {a : Act} {w : World} {G : Gh} (h : SR cx s a w G) : SR cx s a { w with drawn := w.drawn + 1 } G :=
  ⟨h.tm, h.sz, h.df, h.dat, fun b B hB => by
    have := h.bx b B hB
    cases B with
    | var cs => exact this
    | lst e sz xs =>
      obtain ⟨hh, us, e1, e2, e3, e4, e5⟩ := this
      exact ⟨hh, us, e1, e2, e3.congr (fun _ _ => rfl), e4, e5⟩
    | iter s0 pos => exact this, h.gb, h.gl, h.inj, ⟨h.bel.os, h.bel.tape, h.bel.output, h.bel.size, h.bel.block⟩, h.low, h.glo, h.bas⟩

/-- The operation writes this slot; this box. -/
def Rec.wt (r : Rec) (t : Nat) : Bool := r.d == some t
def Rec.wb (r : Rec) (b : Nat) : Bool := r.ub.any fun p => p.1 == b
theorem look_app_t {r : Rec} {s : St} {t : Nat} : look (r.app s).tm t = if r.wt t = true then some r.x else look s.tm t := by
  unfold Rec.app Rec.wt
  cases hd : r.d with
  | none => simp
  | some d =>
    simp only [look_cons]
    by_cases c : d = t
    · subst c; simp
    · simp [c]
theorem look_app_b {r : Rec} {s : St} {b : Nat} (hb : r.wb b = false) : look (r.app s).bx b = look s.bx b := by
  unfold Rec.app
  simp only
  rw [look_append]
  have : look r.ub b = none := by
    unfold Rec.wb at hb
    revert hb
    induction r.ub with
    | nil => intro _; rfl
    | cons p l ih =>
      intro hb
      obtain ⟨k, x⟩ := p
      simp only [List.any_cons, Bool.or_eq_false_iff] at hb
      rw [look_cons, if_neg (by simpa using hb.1)]
      exact ih hb.2
  rw [this]
theorem look_app_b' {r : Rec} {s s' : St} {b : Nat} (hb : r.wb b = true) : look (r.app s).bx b = look (r.app s').bx b := by
  unfold Rec.app
  simp only
  rw [look_append, look_append]
  have : ∃ x, look r.ub b = some x := by
    unfold Rec.wb at hb
    revert hb
    induction r.ub with
    | nil => intro h; simp at h
    | cons p l ih =>
      intro hb
      obtain ⟨k, x⟩ := p
      rw [look_cons]
      by_cases c : k = b
      · exact ⟨x, by rw [if_pos c]⟩
      · rw [if_neg c]
        simp only [List.any_cons, Bool.or_eq_true] at hb
        rcases hb with hb | hb
        · exact absurd (by simpa using hb) c
        · exact ih hb
  obtain ⟨x, hx⟩ := this
  rw [hx]

theorem stOf_n (S : Nat → Bool) : ∀ (rs : List Rec) (k : Nat) (s : St), (stOf S k rs s).n = s.n
  | [], k, s => rfl
  | r :: rs, k, s => by
    simp only [stOf]
    rw [stOf_n S rs]
    split <;> rfl
/-- A slot's value hangs on those operations alone that write it. -/
theorem stOf_t {S S' : Nat → Bool} {t : Nat} : ∀ (rs : List Rec) (k : Nat) (s s' : St), look s.tm t = look s'.tm t → (∀ (i : Nat) r, rs[i]? = some r → r.wt t = true → S (k + i) = S' (k + i)) → look (stOf S k rs s).tm t = look (stOf S' k rs s').tm t
  | [], k, s, s', h, _ => h
  | r :: rs, k, s, s', h, hw => by
    simp only [stOf]
    refine stOf_t rs (k + 1) _ _ ?_ (fun i r' hr hw' => by have := hw (i + 1) r' (by simpa using hr) hw'; rw [show k + 1 + i = k + (i + 1) by omega]; exact this)
    cases hwt : r.wt t with
    | true =>
      have e := hw 0 r rfl hwt
      simp only [Nat.add_zero] at e
      cases hS : S k with
      | true => rw [← e, hS, if_pos rfl, if_pos rfl, look_app_t, look_app_t, hwt]; simp
      | false => rw [← e, hS, if_neg (by simp), if_neg (by simp)]; exact h
    | false =>
      have e1 : look (if S k = true then r.app s else s).tm t = look s.tm t := by
        split
        · rw [look_app_t, hwt]; simp
        · rfl
      have e2 : look (if S' k = true then r.app s' else s').tm t = look s'.tm t := by
        split
        · rw [look_app_t, hwt]; simp
        · rfl
      rw [e1, e2]; exact h
theorem stOf_b {S S' : Nat → Bool} {b : Nat} : ∀ (rs : List Rec) (k : Nat) (s s' : St), look s.bx b = look s'.bx b → (∀ (i : Nat) r, rs[i]? = some r → r.wb b = true → S (k + i) = S' (k + i)) → look (stOf S k rs s).bx b = look (stOf S' k rs s').bx b
  | [], k, s, s', h, _ => h
  | r :: rs, k, s, s', h, hw => by
    simp only [stOf]
    refine stOf_b rs (k + 1) _ _ ?_ (fun i r' hr hw' => by have := hw (i + 1) r' (by simpa using hr) hw'; rw [show k + 1 + i = k + (i + 1) by omega]; exact this)
    cases hwb : r.wb b with
    | true =>
      have e := hw 0 r rfl hwb
      simp only [Nat.add_zero] at e
      cases hS : S k with
      | true => rw [← e, hS, if_pos rfl, if_pos rfl]; exact look_app_b' hwb
      | false => rw [← e, hS, if_neg (by simp), if_neg (by simp)]; exact h
    | false =>
      have e1 : look (if S k = true then r.app s else s).bx b = look s.bx b := by
        split
        · exact look_app_b hwb
        · rfl
      have e2 : look (if S' k = true then r.app s' else s').bx b = look s'.bx b := by
        split
        · exact look_app_b hwb
        · rfl
      rw [e1, e2]; exact h
/-- One operation more: it is the last of those that touch what it touches. -/
theorem stOf_more {S : Nat → Bool} {i : Nat} : ∀ (rs : List Rec) (k : Nat) (s : St) (r : Rec), rs[i]? = some r → S (k + i) = false →
    (∀ (j : Nat) r', rs[j]? = some r' → i < j → S (k + j) = true → (∀ t, r.wt t = true → r'.wt t = false) ∧ ∀ b, r.wb b = true → r'.wb b = false) →
    Alike (r.app (stOf S k rs s)) (stOf (fun j => S j || j == k + i) k rs s) := by
  intro rs k s r hr hS hlast
  refine ⟨?_, fun t => ?_, fun b => ?_⟩
  · show (stOf S k rs s).n = _
    rw [stOf_n, stOf_n]
  · rw [look_app_t]
    cases hw : r.wt t with
    | false =>
      simp only [Bool.false_eq_true, if_false]
      refine stOf_t rs k s s rfl (fun j r' hr' hw' => ?_)
      by_cases c : j = i
      · subst c; rw [hr] at hr'; obtain rfl := Option.some.inj hr'; rw [hw] at hw'; cases hw'
      · simp; intro e; omega
    | true =>
      simp only [if_true]
      -- the slot is this operation's
      have key : ∀ (rs : List Rec) (k i : Nat) (s : St) (S : Nat → Bool), rs[i]? = some r → (∀ (j : Nat) r', rs[j]? = some r' → i < j → S (k + j) = true → r'.wt t = false) → S (k + i) = true → look (stOf S k rs s).tm t = some r.x := by
        intro rs
        induction rs with
        | nil => intro k i s S hr; simp at hr
        | cons r0 rs ih =>
          intro k i s S hr hl hSi
          cases i with
          | zero =>
            simp at hr
            subst hr
            simp only [Nat.add_zero] at hSi
            simp only [stOf, hSi, if_true]
            have : look (stOf S (k + 1) rs (r0.app s)).tm t = look (stOf (fun _ => false) (k + 1) rs (r0.app s)).tm t := stOf_t rs (k + 1) _ _ rfl (fun j r' hr' hw' => by
              cases hq : S (k + 1 + j) with
              | false => rfl
              | true =>
                have := hl (j + 1) r' (by simpa using hr') (by omega) (by rw [show k + (j + 1) = k + 1 + j by omega]; exact hq)
                rw [this] at hw'; cases hw')
            rw [this]
            have h0 : ∀ (rs : List Rec) (k : Nat) (s : St), stOf (fun _ => false) k rs s = s := by
              intro rs
              induction rs with
              | nil => intro k s; rfl
              | cons r1 rs ih2 => intro k s; simp only [stOf]; simp only [Bool.false_eq_true, if_false]; exact ih2 _ _
            rw [h0, look_app_t, hw]; simp
          | succ i =>
            simp only [stOf]
            refine ih (k + 1) i _ S (by simpa using hr) (fun j r' hr' hij hq => hl (j + 1) r' (by simpa using hr') (by omega) (by rw [show k + (j + 1) = k + 1 + j by omega]; exact hq)) (by rw [show k + 1 + i = k + (i + 1) by omega]; exact hSi)
      refine (key rs k i s _ hr (fun j r' hr' hij hq => ?_) (by simp)).symm
      have hj : S (k + j) = true := by
        simp at hq
        rcases hq with hq | hq
        · exact hq
        · omega
      exact (hlast j r' hr' hij hj).1 t hw
  · cases hw : r.wb b with
    | false =>
      rw [look_app_b hw]
      refine stOf_b rs k s s rfl (fun j r' hr' hw' => ?_)
      by_cases c : j = i
      · subst c; rw [hr] at hr'; obtain rfl := Option.some.inj hr'; rw [hw] at hw'; cases hw'
      · simp; intro e; omega
    | true =>
      have key : ∀ (rs : List Rec) (k i : Nat) (s s0 : St) (S : Nat → Bool), rs[i]? = some r → (∀ (j : Nat) r', rs[j]? = some r' → i < j → S (k + j) = true → r'.wb b = false) → S (k + i) = true → look (stOf S k rs s).bx b = look (r.app s0).bx b := by
        intro rs
        induction rs with
        | nil => intro k i s s0 S hr; simp at hr
        | cons r0 rs ih =>
          intro k i s s0 S hr hl hSi
          cases i with
          | zero =>
            simp at hr
            subst hr
            simp only [Nat.add_zero] at hSi
            simp only [stOf, hSi, if_true]
            have : look (stOf S (k + 1) rs (r0.app s)).bx b = look (stOf (fun _ => false) (k + 1) rs (r0.app s)).bx b := stOf_b rs (k + 1) _ _ rfl (fun j r' hr' hw' => by
              cases hq : S (k + 1 + j) with
              | false => rfl
              | true =>
                have := hl (j + 1) r' (by simpa using hr') (by omega) (by rw [show k + (j + 1) = k + 1 + j by omega]; exact hq)
                rw [this] at hw'; cases hw')
            rw [this]
            have h0 : ∀ (rs : List Rec) (k : Nat) (s : St), stOf (fun _ => false) k rs s = s := by
              intro rs
              induction rs with
              | nil => intro k s; rfl
              | cons r1 rs ih2 => intro k s; simp only [stOf]; simp only [Bool.false_eq_true, if_false]; exact ih2 _ _
            rw [h0]; exact look_app_b' hw
          | succ i =>
            simp only [stOf]
            refine ih (k + 1) i _ s0 S (by simpa using hr) (fun j r' hr' hij hq => hl (j + 1) r' (by simpa using hr') (by omega) (by rw [show k + (j + 1) = k + 1 + j by omega]; exact hq)) (by rw [show k + 1 + i = k + (i + 1) by omega]; exact hSi)
      refine (key rs k i s _ _ hr (fun j r' hr' hij hq => ?_) (by simp)).symm
      have hj : S (k + j) = true := by
        simp at hq
        rcases hq with hq | hq
        · exact hq
        · omega
      exact (hlast j r' hr' hij hj).2 b hw
end Go.Proofs.YtlcmnhocicehmaaDoor.Vm

/- The value machine, thirteenth part: a region whose order is drawn comes to what its text's order comes to. Conditions: none. -/
namespace Go.Proofs.YtlcmnhocicehmaaDoor.Vm
open Go Go.RowKit
set_option linter.unusedVariables false
set_option linter.unusedSimpArgs false

/-- Which operations come ahead of an operation, however the order is drawn: as bits. -/
def bmE (acc : List Nat) : List Edge → Nat → Nat
  | [], s => s
  | e :: l, s => bmE acc l (if Region.binds .any e = true then s ||| 2 ^ e.on ||| acc.getD e.on 0 else s)
def masks : List Nat → List Oper → List Nat
  | acc, [] => acc
  | acc, o :: l => masks (acc ++ [bmE acc o.after.toList 0]) l
theorem bmE_bit {acc : List Nat} : ∀ (l : List Edge) (s i : Nat), (bmE acc l s).testBit i = true → s.testBit i = true ∨ ∃ e ∈ l, Region.binds .any e = true ∧ (e.on = i ∨ (acc.getD e.on 0).testBit i = true)
  | [], s, i, h => .inl h
  | e :: l, s, i, h => by
    simp only [bmE] at h
    rcases bmE_bit l _ i h with h1 | ⟨e', h1, h2, h3⟩
    · split at h1
      · rename_i hb
        rw [Nat.testBit_or, Nat.testBit_or, Bool.or_eq_true, Bool.or_eq_true] at h1
        rcases h1 with (h1 | h1) | h1
        · exact .inl h1
        · refine .inr ⟨e, by simp, hb, .inl ?_⟩
          rw [Nat.testBit_two_pow] at h1
          exact of_decide_eq_true h1
        · exact .inr ⟨e, by simp, hb, .inr h1⟩
      · exact .inl h1
    · exact .inr ⟨e', by simp [h1], h2, h3⟩
/-- What comes ahead of an operation that has been has been. -/
def Cl (ops : Array Oper) (S : Nat → Bool) : Prop := ∀ (i : Nat) o, S i = true → ops[i]? = some o → ∀ e ∈ o.after.toList, Region.binds .any e = true → S e.on = true
theorem masks_cl {ops : Array Oper} {S : Nat → Bool} (hS : Cl ops S) : ∀ (l : List Oper) (acc : List Nat), (∀ (i : Nat) o, l[i]? = some o → ops[acc.length + i]? = some o) →
    (∀ (k i : Nat), (acc.getD k 0).testBit i = true → S k = true → S i = true) → ∀ (k i : Nat), ((masks acc l).getD k 0).testBit i = true → S k = true → S i = true
  | [], acc, ho, ha => ha
  | o :: l, acc, ho, ha => by
    simp only [masks]
    refine masks_cl hS l _ (fun i o' h => by have := ho (i + 1) o' (by simpa using h); rw [List.length_append, List.length_singleton, show acc.length + 1 + i = acc.length + (i + 1) by omega]; exact this) (fun k i hb hk => ?_)
    by_cases c : k < acc.length
    · refine ha k i ?_ hk
      rw [List.getD_eq_getElem?_getD, List.getElem?_append_left c] at hb
      rw [List.getD_eq_getElem?_getD]; exact hb
    · by_cases c2 : k = acc.length
      · subst c2
        rw [List.getD_eq_getElem?_getD, List.getElem?_append_right (Nat.le_refl _)] at hb
        simp only [Nat.sub_self, List.getElem?_cons_zero, Option.getD_some] at hb
        rcases bmE_bit _ _ _ hb with h1 | ⟨e, h1, h2, h3⟩
        · simp at h1
        · have hone := hS acc.length o hk (by have := ho 0 o rfl; simpa using this) e h1 h2
          rcases h3 with h3 | h3
          · rw [← h3]; exact hone
          · exact ha e.on i h3 hone
      · rw [List.getD_eq_getElem?_getD, List.getElem?_eq_none (by simp; omega)] at hb
        simp at hb
theorem masks_ready {ops : Array Oper} {S : Nat → Bool} (hS : Cl ops S) {o : Oper} {k : Nat} (hk : ops[k]? = some o) (hr : ∀ e ∈ o.after.toList, Region.binds .any e = true → S e.on = true) : ∀ (i : Nat), ((masks [] ops.toList).getD k 0).testBit i = true → S i = true := by
  intro i hb
  -- the operation itself, added
  have hS' : Cl ops (fun j => S j || j == k) := by
    intro j o' hj ho e he hbd
    simp only [Bool.or_eq_true, beq_iff_eq] at hj ⊢
    rcases hj with hj | hj
    · exact .inl (hS j o' hj ho e he hbd)
    · subst hj
      rw [hk] at ho
      obtain rfl := Option.some.inj ho
      exact .inl (hr e he hbd)
  have key : ∀ (l : List Oper) (acc : List Nat), (∀ (i : Nat) o, l[i]? = some o → ops[acc.length + i]? = some o) → (∀ (q i : Nat), (acc.getD q 0).testBit i = true → (S q = true ∨ q = k) → S i = true) → ∀ (q i : Nat), ((masks acc l).getD q 0).testBit i = true → (S q = true ∨ q = k) → S i = true := by
    intro l
    induction l with
    | nil => intro acc _ ha; exact ha
    | cons o1 l ih =>
      intro acc ho ha
      simp only [masks]
      refine ih _ (fun i o' h => by have := ho (i + 1) o' (by simpa using h); rw [List.length_append, List.length_singleton, show acc.length + 1 + i = acc.length + (i + 1) by omega]; exact this) (fun q i hb hq => ?_)
      by_cases c : q < acc.length
      · refine ha q i ?_ hq
        rw [List.getD_eq_getElem?_getD, List.getElem?_append_left c] at hb
        rw [List.getD_eq_getElem?_getD]; exact hb
      · by_cases c2 : q = acc.length
        · subst c2
          rw [List.getD_eq_getElem?_getD, List.getElem?_append_right (Nat.le_refl _)] at hb
          simp only [Nat.sub_self, List.getElem?_cons_zero, Option.getD_some] at hb
          have hoq : ops[acc.length]? = some o1 := by have := ho 0 o1 rfl; simpa using this
          rcases bmE_bit _ _ _ hb with h1 | ⟨e, h1, h2, h3⟩
          · simp at h1
          · have hone : S e.on = true := by
              rcases hq with hq | hq
              · exact hS acc.length o1 hq hoq e h1 h2
              · rw [hq, hk] at hoq
                obtain rfl := Option.some.inj hoq
                exact hr e h1 h2
            rcases h3 with h3 | h3
            · rw [← h3]; exact hone
            · exact ha e.on i h3 (.inl hone)
        · rw [List.getD_eq_getElem?_getD, List.getElem?_eq_none (by simp; omega)] at hb
          simp at hb
  exact key ops.toList [] (fun i o h => by simpa using h) (fun q i h => by simp at h) k i hb (.inr rfl)

/-- One operation reads or writes what another one writes. -/
def touch (r q : Rec) : Bool := (r.rt.any fun p => q.wt p.1) || (match r.d with | some d => q.wt d | none => false) || (r.rb.any fun p => q.wb p.1) || (r.nb.any fun b => q.wb b) || (r.ub.any fun p => q.wb p.1)
/-- Operations that touch come in one order alone. -/
def apartRow (ms : List Nat) (i : Nat) (r : Rec) : Nat → List Rec → Bool
  | _, [] => true
  | j, q :: qs => (Nat.beq i j || !touch r q || bif Nat.blt j i then (ms.getD i 0).testBit j else (ms.getD j 0).testBit i) && apartRow ms i r (j + 1) qs
def apartAll (ms : List Nat) (all : List Rec) : Nat → List Rec → Bool
  | _, [] => true
  | i, r :: rs => apartRow ms i r 0 all && apartAll ms all (i + 1) rs
def edgesOk : Nat → List Oper → Bool
  | _, [] => true
  | i, o :: l => (o.after.toList.all fun e => !Region.binds .any e || Nat.blt e.on i) && edgesOk (i + 1) l
theorem apartRow_get {ms : List Nat} {i : Nat} {r : Rec} : ∀ (qs : List Rec) (j : Nat), apartRow ms i r j qs = true → ∀ (k : Nat) q, qs[k]? = some q → i ≠ j + k → touch r q = true → (j + k < i → (ms.getD i 0).testBit (j + k) = true) ∧ (i < j + k → (ms.getD (j + k) 0).testBit i = true)
  | [], j, h, k, q, hq => by simp at hq
  | q0 :: qs, j, h, k, q, hq => by
    simp only [apartRow, Bool.and_eq_true] at h
    cases k with
    | zero =>
      simp at hq
      subst hq
      intro hne ht
      simp only [Nat.add_zero] at hne ⊢
      have h1 := h.1
      simp only [Bool.or_eq_true, ht, Bool.not_true, Bool.false_eq_true, or_false] at h1
      rcases h1 with h1 | h1
      · exact absurd (Nat.eq_of_beq_eq_true h1) hne
      · cases hb : Nat.blt j i with
        | true =>
          rw [hb] at h1
          have := Vm.blt hb
          exact ⟨fun _ => h1, fun h => by omega⟩
        | false =>
          rw [hb] at h1
          refine ⟨fun h => ?_, fun _ => h1⟩
          have : Nat.blt j i = true := Nat.ble_eq_true_of_le h
          rw [this] at hb; cases hb
    | succ k =>
      intro hne ht
      have := apartRow_get qs (j + 1) h.2 k q (by simpa using hq) (by omega) ht
      rw [show j + (k + 1) = j + 1 + k by omega]
      exact this
theorem apartAll_get {ms : List Nat} {all : List Rec} : ∀ (rs : List Rec) (i : Nat), apartAll ms all i rs = true → ∀ (k : Nat) r, rs[k]? = some r → apartRow ms (i + k) r 0 all = true
  | [], i, h, k, r, hr => by simp at hr
  | r0 :: rs, i, h, k, r, hr => by
    simp only [apartAll, Bool.and_eq_true] at h
    cases k with
    | zero => simp at hr; subst hr; exact h.1
    | succ k =>
      have := apartAll_get rs (i + 1) h.2 k r (by simpa using hr)
      rw [show i + (k + 1) = i + 1 + k by omega]; exact this
theorem edgesOk_get : ∀ (l : List Oper) (i : Nat), edgesOk i l = true → ∀ (k : Nat) o, l[k]? = some o → ∀ e ∈ o.after.toList, Region.binds .any e = true → e.on < i + k
  | [], i, h, k, o, ho => by simp at ho
  | o0 :: l, i, h, k, o, ho => by
    simp only [edgesOk, Bool.and_eq_true] at h
    cases k with
    | zero =>
      simp at ho
      subst ho
      intro e he hb
      have := List.all_eq_true.1 h.1 e he
      simp only [hb, Bool.not_true, Bool.false_or] at this
      exact Vm.blt this
    | succ k =>
      have := edgesOk_get l (i + 1) h.2 k o (by simpa using ho)
      rw [show i + (k + 1) = i + 1 + k by omega]; exact this

/-- In the text's order each operation finds what it reads. -/
def Canon : St → List Rec → Prop
  | _, [] => True
  | s, r :: rs => r.Met s ∧ Canon (r.app s) rs
theorem canon_met : ∀ (rs : List Rec) (k : Nat) (s : St), Canon s rs → ∀ (i : Nat) r, rs[i]? = some r → r.Met (stOf (fun j => decide (j < k + i)) k rs s)
  | [], k, s, h, i, r, hr => by simp at hr
  | r0 :: rs, k, s, h, i, r, hr => by
    cases i with
    | zero =>
      simp at hr
      subst hr
      have h0 : ∀ (rs : List Rec) (q : Nat) (s : St), k ≤ q → stOf (fun j => decide (j < k + 0)) q rs s = s := by
        intro rs
        induction rs with
        | nil => intro q s _; rfl
        | cons r1 rs ih => intro q s hq; simp only [stOf]; rw [if_neg (by simp; omega)]; exact ih _ _ (by omega)
      rw [h0 _ _ _ (Nat.le_refl _)]
      exact h.1
    | succ i =>
      simp only [stOf]
      rw [if_pos (by simp)]
      have := canon_met rs (k + 1) (r0.app s) h.2 i r (by simpa using hr)
      rw [show k + (i + 1) = k + 1 + i by omega]; exact this
def un (S : Nat → Bool) (m : Nat) : Nat := ((List.range m).filter fun j => !S j).length
theorem un_succ (S : Nat → Bool) (m : Nat) : un S (m + 1) = un S m + if S m = true then 0 else 1 := by
  unfold un
  rw [List.range_succ, List.filter_append, List.length_append]
  congr 1
  cases h : S m <;> simp [h]
theorem un_more {S : Nat → Bool} {i : Nat} : ∀ (m : Nat), S i = false → (i < m → un (fun j => S j || j == i) m + 1 = un S m) ∧ (m ≤ i → un (fun j => S j || j == i) m = un S m)
  | 0, h => ⟨fun h => by omega, fun _ => rfl⟩
  | m + 1, h => by
    obtain ⟨e1, e2⟩ := un_more m h
    rw [un_succ, un_succ]
    refine ⟨fun hi => ?_, fun hi => ?_⟩
    · by_cases c : i = m
      · subst c
        rw [e2 (Nat.le_refl _), h]
        simp
      · have := e1 (by omega)
        have hm : (S m || m == i) = S m := by simp; intro e; omega
        rw [hm]; omega
    · have hm : (S m || m == i) = S m := by simp; intro e; omega
      rw [e2 (by omega), hm]
theorem un_zero {S : Nat → Bool} {m : Nat} (h : un S m = 0) : ∀ i, i < m → S i = true := by
  intro i hi
  cases hS : S i with
  | true => rfl
  | false =>
    have : i ∈ (List.range m).filter fun j => !S j := by simp [hi, hS]
    unfold un at h
    rw [List.eq_nil_of_length_eq_zero h] at this
    simp at this

section
variable {P : Program} {g : Gb} {s : St}
theorem draw_any {cx : Cx} {l : List Oper} {rs : List Rec} {Q : Exit → Act → World → Prop} (hP : cx.P = P) (hg : cx.g = g) (hlen : rs.length = l.length) (hrec : ∀ (i : Nat) o r, l[i]? = some o → rs[i]? = some r → RecOk P g l.toArray o r) (hcan : Canon s rs)
    (hed : edgesOk 0 l = true) (hap : apartAll (masks [] l) rs 0 rs = true) (hQ : ∀ a w G, SR cx (stOf (fun _ => true) 0 rs s) a w G → Q .normal a w) :
    ∀ (fuel : Nat) (listed : Array Bool) (a : Act) (w : World) (G : Gh), listed.size = l.length → un (fun j => listed.getD j false) l.length ≤ fuel → Cl l.toArray (fun j => listed.getD j false) → SR cx (stOf (fun j => listed.getD j false) 0 rs s) a w G → wpAny P .any l.toArray Q fuel listed a w := by
  intro fuel
  have hready : ∀ listed : Array Bool, listed.size = l.length → ∀ i, i ∈ Region.ready .any l.toArray listed ↔ i < l.length ∧ listed.getD i false = false ∧ ∃ o, l[i]? = some o ∧ ∀ e ∈ o.after.toList, Region.binds .any e = true → listed.getD e.on false = true := by
    intro listed hsz i
    unfold Region.ready
    simp only [List.mem_filter, List.mem_range, List.size_toArray, Bool.and_eq_true]
    constructor
    · rintro ⟨h1, h2, h3⟩
      have hlt : i < listed.size := by omega
      refine ⟨h1, ?_, l[i], by simp [h1], fun e he hb => ?_⟩
      · simp [Array.getD, hlt] at h2 ⊢; exact h2
      · simp only [List.getElem?_toArray, List.getElem?_eq_getElem h1, Option.map_some, Option.getD_some] at h3
        rw [Array.all_eq_true_iff_forall_mem] at h3
        have := h3 e (by simpa using he)
        simpa [hb] using this
    · rintro ⟨h1, h2, o, h3, h4⟩
      have hlt : i < listed.size := by omega
      refine ⟨h1, ?_, ?_⟩
      · simp [Array.getD, hlt] at h2 ⊢; exact h2
      · simp only [List.getElem?_toArray, h3, Option.map_some, Option.getD_some]
        rw [Array.all_eq_true_iff_forall_mem]
        intro e he
        cases hb : Region.binds .any e with
        | false => simp
        | true => simp [h4 e (by simpa using he) hb]
  have hsome : ∀ listed : Array Bool, listed.size = l.length → Region.ready .any l.toArray listed = [] → ∀ i, i < l.length → listed.getD i false = true := by
    intro listed hsz hnil i
    induction i using Nat.strongRecOn with
    | _ i ih =>
      intro hi
      cases hS : listed.getD i false with
      | true => rfl
      | false =>
        have : i ∈ Region.ready .any l.toArray listed := (hready listed hsz i).2 ⟨hi, hS, l[i], by simp [hi], fun e he hb => by
          have := edgesOk_get l 0 hed i l[i] (by simp [hi]) e he hb
          exact ih e.on (by omega) (by omega)⟩
        rw [hnil] at this
        simp at this
  have hall : ∀ listed : Array Bool, listed.size = l.length → (∀ i, i < l.length → listed.getD i false = true) → ∀ a w G, SR cx (stOf (fun j => listed.getD j false) 0 rs s) a w G → Q .normal a w := by
    intro listed hsz hall a w G h
    refine hQ a w G (h.alike ⟨?_, fun t => ?_, fun b => ?_⟩)
    · rw [stOf_n, stOf_n]
    · exact stOf_t rs 0 s s rfl (fun i r hr _ => by
        have := (List.getElem?_eq_some_iff.1 hr).1
        exact hall (0 + i) (by omega))
    · exact stOf_b rs 0 s s rfl (fun i r hr _ => by
        have := (List.getElem?_eq_some_iff.1 hr).1
        exact hall (0 + i) (by omega))
  induction fuel with
  | zero =>
    intro listed a w G hsz hun hcl h
    have hfull := un_zero (Nat.le_zero.1 hun)
    refine ⟨?_, hall listed hsz hfull a w G h⟩
    cases hr : Region.ready .any l.toArray listed with
    | nil => rfl
    | cons i is =>
      have : i ∈ Region.ready .any l.toArray listed := by rw [hr]; simp
      obtain ⟨h1, h2, _⟩ := (hready listed hsz i).1 this
      rw [hfull i h1] at h2; cases h2
  | succ fuel ih =>
    intro listed a w G hsz hun hcl h
    refine ⟨fun hnil => hall listed hsz (hsome listed hsz hnil) a w G h, fun i hi => ?_⟩
    obtain ⟨h1, h2, o, h3, h4⟩ := (hready listed hsz i).1 hi
    obtain ⟨r, hr⟩ : ∃ r, rs[i]? = some r := ⟨rs[i]'(by omega), by simp [show i < rs.length by omega]⟩
    have hoa : l.toArray[i]? = some o := by simpa using h3
    have hrd := masks_ready hcl hoa h4
    have hmk := masks_cl hcl l [] (fun i o h => by simpa using h) (fun q i h => by simp at h)
    -- who touches what this operation touches
    have htouch : ∀ (j : Nat) q, rs[j]? = some q → touch r q = true → listed.getD j false = decide (j < i) := by
      intro j q hq ht
      by_cases c : i = j
      · subst c; rw [h2]; simp
      · have h5 := apartAll_get rs 0 hap i r hr
        rw [Nat.zero_add] at h5
        have h6 := apartRow_get rs 0 h5 j q hq (by omega) ht
        rw [Nat.zero_add] at h6
        by_cases c2 : j < i
        · rw [hrd j (h6.1 c2)]; simp [c2]
        · cases hS : listed.getD j false with
          | false => simp; omega
          | true =>
            have := hmk j i (h6.2 (by omega)) hS
            rw [h2] at this; cases this
    have hmet : r.Met (stOf (fun j => listed.getD j false) 0 rs s) := by
      have hc := canon_met rs 0 s hcan i r hr
      refine ⟨fun p hp => ?_, fun p hp => ?_, fun b hb => ?_, fun t ht => by rw [stOf_n]; have := hc.d t ht; rw [stOf_n] at this; exact this⟩
      · rw [← hc.t p hp]
        refine stOf_t rs 0 s s rfl (fun j q hq hw => ?_)
        simp only [Nat.zero_add]
        exact htouch j q hq (by unfold touch; simp only [Bool.or_eq_true]; exact .inl (.inl (.inl (.inl (List.any_eq_true.2 ⟨p, hp, hw⟩)))))
      · rw [← hc.b p hp]
        refine stOf_b rs 0 s s rfl (fun j q hq hw => ?_)
        simp only [Nat.zero_add]
        exact htouch j q hq (by unfold touch; simp only [Bool.or_eq_true]; exact .inl (.inl (.inr (List.any_eq_true.2 ⟨p, hp, hw⟩))))
      · rw [← hc.n b hb]
        refine stOf_b rs 0 s s rfl (fun j q hq hw => ?_)
        simp only [Nat.zero_add]
        exact htouch j q hq (by unfold touch; simp only [Bool.or_eq_true]; exact .inl (.inr (List.any_eq_true.2 ⟨b, hb, hw⟩)))
    have hnext : ∀ a' w' G', SR cx (r.app (stOf (fun j => listed.getD j false) 0 rs s)) a' w' G' → wpAny P .any l.toArray Q fuel (listed.setIfInBounds i true) a' w' := by
      intro a' w' G' h'
      have hSeq : (fun j => (listed.setIfInBounds i true).getD j false) = fun j => listed.getD j false || j == i := by
        funext j
        by_cases c : j = i
        · subst c
          have hlt : j < listed.size := by omega
          simp [Array.getD_eq_getD_getElem?, hlt]
        · have c' : i ≠ j := fun e => c e.symm
          have c'' : (j == i) = false := by simpa using c
          simp [Array.getD_eq_getD_getElem?, Array.getElem?_setIfInBounds_ne c', c'']
      refine ih _ a' w' G' (by simpa using hsz) ?_ ?_ ?_
      · rw [hSeq]
        have := (un_more (S := fun j => listed.getD j false) (i := i) l.length h2).1 h1
        omega
      · rw [hSeq]
        intro j o' hj ho e he hb
        simp only [Bool.or_eq_true, beq_iff_eq] at hj ⊢
        rcases hj with hj | hj
        · exact .inl (hcl j o' hj ho e he hb)
        · subst hj
          rw [hoa] at ho
          obtain rfl := Option.some.inj ho
          exact .inl (h4 e he hb)
      · rw [hSeq]
        have := stOf_more (S := fun j => listed.getD j false) (i := i) rs 0 s r hr (by simpa using h2) (fun j q hq hij hSj => by
          have hno : touch r q = false := by
            cases ht : touch r q with
            | false => rfl
            | true =>
              have := htouch j q hq ht
              simp only [Nat.zero_add] at hSj
              rw [hSj] at this
              simp at this; omega
          unfold touch at hno
          simp only [Bool.or_eq_false_iff] at hno
          refine ⟨fun t ht => ?_, fun b hb => ?_⟩
          · unfold Rec.wt at ht
            have hd : r.d = some t := by simpa using ht
            have h5 := hno.1.1.1.2
            rw [hd] at h5
            exact h5
          · cases hq' : q.wb b with
            | false => rfl
            | true =>
              unfold Rec.wb at hb
              obtain ⟨p, hp, hpb⟩ := List.any_eq_true.1 hb
              have hpb' : p.1 = b := by simpa using hpb
              have h5 := List.any_eq_false.1 hno.2 p hp
              rw [hpb'] at h5
              exact absurd hq' h5)
        simp only [Nat.zero_add] at this
        exact h'.alike this
    have hro := hrec i o r h3 hr
    unfold wpOp
    rw [hoa]
    simp only
    cases hro with
    | plain hgd hd hl =>
      rw [if_pos (by simp [Region.wanted, hgd])]
      exact .inl (hl _ hmet cx a w G hP hg h _ _ fun a' w' G' h' => hnext a' w' G' h')
    | yes j t b want hgd hd hj ht hb hl =>
      have hlk := hmet.t _ ht
      have hy := yielded_of hj (h.boolSlot (s := stOf (fun j => listed.getD j false) 0 rs s) (t := t) (b := b) (by unfold St.get; rw [hlk]; rfl))
      rw [if_pos (by simp [Region.wanted, hgd, hy, hb])]
      exact .inl (hl _ hmet cx a w G hP hg h _ _ fun a' w' G' h' => hnext a' w' G' h')
    | no j t x want hgd hd hj ht hb hx hu =>
      have hlk := hmet.t _ ht
      have hy := yielded_off hj (h.slot (s := stOf (fun j => listed.getD j false) 0 rs s) (t := t) (x := x) (by unfold St.get; rw [hlk]; rfl)) hb
      rw [if_neg (by simp [Region.wanted, hgd, hy])]
      refine hnext _ _ G ?_
      have := h.putO (d := r.d) (x := .tup []) (v := undef) (fun t ht => hmet.d t ht) RA.undef
      rw [hd]
      unfold Rec.app
      rw [hu, hx]
      cases hrd' : r.d with
      | none => rw [hrd'] at this; exact this
      | some d => rw [hrd'] at this; exact this

/-- A region whose order is drawn. -/
theorem Runs.draw {id : Nat} {l : List Oper} {rs : List Rec} (hm : P.follows .mixedOrders = true) (hlen : rs.length = l.length) (hrec : ∀ (i : Nat) o r, l[i]? = some o → rs[i]? = some r → RecOk P g l.toArray o r) (hcan : Canon s rs) (hed : edgesOk 0 l = true) (hap : apartAll (masks [] l) rs 0 rs = true) :
    Runs P g (.region id l.toArray true) s .normal (stOf (fun _ => true) 0 rs s) := by
  intro cx a w G hP hg h
  refine wp_region_any hm ?_
  have hf : (fun j => (Array.replicate l.toArray.size false).getD j false) = fun _ => false := by
    funext j
    simp [Array.getD_eq_getD_getElem?, Array.getElem?_replicate]
    split <;> rfl
  refine draw_any hP hg hlen hrec hcan hed hap (fun a w G h => ⟨trivial, G, h⟩) _ _ a _ G (by simp) ?_ ?_ ?_
  · unfold un
    refine Nat.le_trans (List.length_filter_le _ _) (by simp)
  · intro i o hi
    rw [hf] at hi
    cases hi
  · rw [hf]
    have h0 : ∀ (rs : List Rec) (k : Nat) (s : St), stOf (fun _ => false) k rs s = s := by
      intro rs
      induction rs with
      | nil => intro k s; rfl
      | cons r1 rs ih2 => intro k s; simp only [stOf]; simp only [Bool.false_eq_true, if_false]; exact ih2 _ _
    rw [h0]
    exact h.drew
end
end Go.Proofs.YtlcmnhocicehmaaDoor.Vm
