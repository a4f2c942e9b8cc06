/- Values of interface type: made, and a method of theirs called. Conditions: none. -/
import Derived.Test.YtdigejpgjnhclaaDoorExec
import Derived.Test.YtdigejpgjnhclaaDoorEqW
namespace Go.Proofs.YtdigejpgjnhclaaDoor.Vm
open Go Go.RowKit
set_option linter.unusedVariables false
set_option linter.unusedSimpArgs false
section
variable {P : Program} {g : Gb} {s : St}
/-- A call, however it comes to its function. -/
theorem OpOk.callG {o : Oper} {d : Tmp} {f : FuncId} {args : List AV} {r : AV} {bs : List (Nat × Box)} (ho : o.dst = some d) (k : Nat) (hc : FnOk P g f args r bs)
    (hrun : ∀ (cx : Cx) (a : Act) (w : World) (G : Gh), cx.P = P → cx.g = g → SR cx s a w G → ∃ vals : Array Value, (execOp a.eval o).run P w = .ok (.enter f vals) w ∧ vals.size = args.length ∧ ∀ (i : Nat) x v, args[i]? = some x → vals[i]? = some v → RA G x v)
    (hcl : closed args = true) (hk : freeB k s.bx bs = true) (hkl : lnFree k g.ln bs = true) (hdr : d2 r = true) (hdb : dBs bs = true) (hd : d < s.n) : OpOk P g o s (St.put { s with bx := shBs k bs ++ s.bx } d (sh3 k r)) := by
  intro cx a w G hP hg hs K Q hK
  obtain ⟨vals, he, hsz, hvals0⟩ := hrun cx a w G hP hg hs
  unfold Oper.wp
  rw [he]
  subst hP
  subst hg
  have hvals : ∀ (i : Nat) x v, args[i]? = some x → vals[i]? = some v → RA ⟨G.dat, fun _ => none, fun _ => none⟩ x v := by
    intro i x v hx hv
    exact RA.agree (h := hvals0 i x v hx hv) (G := G) (G' := ⟨G.dat, fun _ => none, fun _ => none⟩) (D := has []) (fun _ _ _ h => h) (fun b k hD => by simp [has, look] at hD) (fun b x hD => by simp [has, look] at hD) (men3_ok (closed_mem hcl x (List.mem_of_getElem? hx)))
  have hglo : ∀ k cs, cx.g.fn k = some cs → RA ⟨G.dat, fun _ => none, fun _ => none⟩ (.eptr cs) (.pointer (some ⟨k, 0, none⟩)) := fun k cs hg =>
    RA.agree (h := hs.glo k cs hg) (G := G) (G' := ⟨G.dat, fun _ => none, fun _ => none⟩) (D := has []) (fun _ _ _ h => h) (fun b k hD => by simp [has, look] at hD) (fun b x hD => by simp [has, look] at hD) (.eptr cs)
  refine Calls.mono (hc w vals G.dat hs.dat hsz hvals hglo) ?_
  rintro e w' ⟨v, G2, rfl, h2⟩
  obtain ⟨G', h3⟩ := hs.join hk hkl hdr hdb h2 hd
  rw [ho]
  exact hK _ _ G' h3
end
section
variable {E : Env} {n : Nat} {tm : List (Nat × AV)} {bx : List (Nat × Box)} {ops : Array Oper} {l : List Oper} {d : Tmp} {ty : TypeId} {pos : String} {after : Array Edge}
theorem O.mkIfc {Θ : St → Prop} {t : TypeId} {y : Operand} {i : TI} {cs : List AV} {ps : List PV} (hE : E.Ok) (ht : E.T t = some i) (hk : i.desc = .str) (hy : evO E tm y = some (.agg cs)) (hu : unpv cs = some ps) (h1 : onesP ps = true) (hd : Nat.blt d n = true)
    (h : Ops E.P E.g ops l ⟨n, (d, .pv (.ifc t (.agg ps))) :: tm, bx⟩ Θ) : Ops E.P E.g ops (⟨some d, .makeInterface t y, ty, pos, after, none⟩ :: l) ⟨n, tm, bx⟩ Θ :=
  Ops.op rfl (OpOk.mkIfc (s := ⟨n, tm, bx⟩) (hE.t _ _ ht) hk (evO_ok hy) hu h1 (dlt hd)) h
theorem D.mkIfc {Θ : List Rec → St → Prop} {t : TypeId} {y : Operand} {i : TI} {cs : List AV} {ps : List PV} (hE : E.Ok) (ht : E.T t = some i) (hk : i.desc = .str) (hy : evO E tm y = some (.agg cs)) (hu : unpv cs = some ps) (h1 : onesP ps = true) (hd : Nat.blt d n = true)
    (h : Dr E.P E.g ops l ⟨n, (d, .pv (.ifc t (.agg ps))) :: tm, bx⟩ (fun rs => Θ (⟨rtOf y (.agg cs), [], [], some d, .pv (.ifc t (.agg ps)), []⟩ :: rs))) : Dr E.P E.g ops (⟨some d, .makeInterface t y, ty, pos, after, none⟩ :: l) ⟨n, tm, bx⟩ Θ :=
  D.of (rt := rtOf y (.agg cs)) (rb := []) (rt_now hy) none_met hd (fun s hs _ hd' => OpOk.mkIfc (s := s) (hE.t _ _ ht) hk (evO_ok (n := s.n) (bx := s.bx) (rt_ev hy hs)) hu h1 (fun t ht => by obtain rfl := Option.some.inj ht; exact hd')) h
end
end Go.Proofs.YtdigejpgjnhclaaDoor.Vm
