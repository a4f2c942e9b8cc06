/- The value machine, seventeenth part: a call of a function that a value is. Conditions: none. -/
import Derived.Test.YtcbdhdblchmofaaDoorVmQ
namespace Go.Proofs.YtcbdhdblchmofaaDoor.Vm
open Go Go.RowKit
set_option linter.unusedVariables false
section
variable {P : Program} {g : Nat → Option (List PV)} {s : St}
theorem OpOk.callV {d : Tmp} {f : FuncId} {fn : Func} {c : Operand} {xs : Array Operand} {ts : Array TypeId} {ty : TypeId} {pos : String} {after : Array Edge} {gd : Option (Nat × Bool)} {args : List AV} {r : AV} {bs : List (Nat × Box)} (k : Nat)
    (hy : s.ev g c = .clo f []) (hc : FnOk P g f args r bs) (hf : P.funcs[f]? = some fn) (hname : (fn.name == "runtime.NumGoroutine") = false) (hb : fn.body.isSome = true) (hargs : AVles s (xs.toList.map (s.ev g)) args) (hcl : closed args = true)
    (hk : freeB k s.bx bs = true) (hdr : d2 r = true) (hdb : dBs bs = true) (hd : d < s.n) :
    OpOk P g ⟨some d, .call { callee := .value c, args := xs, argTypes := ts }, ty, pos, after, gd⟩ s (St.put { s with bx := shBs k bs ++ s.bx } d (sh3 k r)) := by
  intro cx a w G hP hg hs K Q hK
  have hv : a.eval c = .func (.func f) #[] #[] := by
    have h := hs.ev hg c
    rw [hy] at h
    generalize a.eval c = v at h
    cases h with
    | clo f cs vs hl h =>
      have : vs = #[] := by simpa using hl
      rw [this]
  have hrun : (execOp a.eval ⟨some d, .call { callee := .value c, args := xs, argTypes := ts }, ty, pos, after, gd⟩).run P w = .ok (.enter f (xs.map a.eval)) w := by
    have hnb : fn.body ≠ none := fun e => by rw [e] at hb; cases hb
    have hne : fn.name ≠ "runtime.NumGoroutine" := fun e => by simp [e] at hname
    simp [execOp, resolve, hv, Deferred.ofValue, invoke, callFunc, program, Sem.run_bind, Sem.run, hf, hne, hnb, Result.andThen]
  unfold Oper.wp
  rw [hrun]
  subst hP
  subst hg
  obtain ⟨hl, hle⟩ := hargs.get
  have hvals : ∀ (i : Nat) x v, args[i]? = some x → (xs.map a.eval)[i]? = some v → RA ⟨G.dat, fun _ => none, fun _ => none⟩ x v := by
    intro i x v hx hv
    rw [Array.getElem?_map, Option.map_eq_some_iff] at hv
    obtain ⟨y, hy, rfl⟩ := hv
    have h1 := hle i (s.ev cx.g y) x (by simp [hy]) hx
    have h2 := hs.le h1 (hs.ev rfl y)
    exact RA.agree (h := h2) (G := G) (G' := ⟨G.dat, fun _ => none, fun _ => none⟩) (D := has []) (fun _ _ _ h => h) (fun b k hD => by simp [has, look] at hD) (fun b x hD => by simp [has, look] at hD) (men3_ok (closed_mem hcl x (List.mem_of_getElem? hx)))
  have hglo : ∀ k cs, cx.g k = some cs → RA ⟨G.dat, fun _ => none, fun _ => none⟩ (.eptr cs) (.pointer (some ⟨k, 0, none⟩)) := fun k cs hg =>
    RA.agree (h := hs.glo k cs hg) (G := G) (G' := ⟨G.dat, fun _ => none, fun _ => none⟩) (D := has []) (fun _ _ _ h => h) (fun b k hD => by simp [has, look] at hD) (fun b x hD => by simp [has, look] at hD) (.eptr cs)
  refine Calls.mono (hc w (xs.map a.eval) G.dat hs.dat (by simpa using hl) hvals hglo) ?_
  rintro e w' ⟨v, G2, rfl, h2⟩
  obtain ⟨G', h3⟩ := hs.join hk hdr hdb h2 hd
  exact hK _ _ G' h3
end
section
variable {E : Env} {n : Nat} {tm : List (Nat × AV)} {bx : List (Nat × Box)} {ops : Array Oper} {l : List Oper} {Θ : St → Prop} {d : Tmp} {ty : TypeId} {pos : String} {after : Array Edge}
theorem evsO_les : ∀ (l : List Operand) (args : List AV), evsO E tm l = some args → AVles ⟨n, tm, bx⟩ (l.map (St.ev ⟨n, tm, bx⟩ E.g)) args
  | [], args, h => by obtain rfl := Option.some.inj h; exact .nil
  | x :: l, args, h => by
    simp only [evsO] at h
    split at h
    · rename_i y ys h1 h2
      obtain rfl := Option.some.inj h
      exact .cons (AVle.of_eq (evO_ok h1)) (evsO_les l _ h2)
    · cases h
theorem O.callV {c : Operand} {f : FuncId} {xs : Array Operand} {ts : Array TypeId} {args : List AV} {r : AV} (hc : FnC E f args r []) (hy : evO E tm c = some (.clo f [])) (hargs : evsO E tm xs.toList = some args) (hcl : closed args = true) (hdr : d2 r = true) (hd : Nat.blt d n = true)
    (h : Ops E.P E.g ops l ⟨n, (d, r) :: tm, bx⟩ Θ) : Ops E.P E.g ops (⟨some d, .call { callee := .value c, args := xs, argTypes := ts }, ty, pos, after, none⟩ :: l) ⟨n, tm, bx⟩ Θ := by
  obtain ⟨fn, h1, h2, h3⟩ := hc.fn
  have := OpOk.callV (P := E.P) (g := E.g) (s := ⟨n, tm, bx⟩) (d := d) (c := c) (xs := xs) (ts := ts) (ty := ty) (pos := pos) (after := after) (gd := none) 0 (evO_ok hy) hc.ok h1 h2 h3 (evsO_les _ _ hargs) hcl rfl hdr rfl (Vm.blt hd)
  rw [sh3_zero] at this
  exact Ops.op rfl this h
end
end Go.Proofs.YtcbdhdblchmofaaDoor.Vm
