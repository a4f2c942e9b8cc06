/- Values of interface type: made, and a method of theirs called. Conditions: none. -/
import Derived.Test.YtdigejpgjnhclaaDoorPick
namespace Go.Proofs.YtdigejpgjnhclaaDoor.Vm
open Go Go.RowKit
set_option linter.unusedVariables false
set_option linter.unusedSimpArgs false
/-- Cells without addresses, as a value's. -/
def unpv : List AV → Option (List PV)
  | [] => some []
  | .pv p :: l => (unpv l).map (p :: ·)
  | _ :: _ => none
theorem unpv_ok : ∀ {cs : List AV} {ps : List PV}, unpv cs = some ps → cs = ps.map AV.pv
  | [], ps, h => by simp only [unpv] at h; obtain rfl := Option.some.inj h; rfl
  | .pv p :: l, ps, h => by
    simp only [unpv, Option.map_eq_some_iff] at h
    obtain ⟨qs, h1, rfl⟩ := h
    rw [unpv_ok h1]; rfl
  | .any :: l, ps, h => by simp [unpv] at h
  | .agg _ :: l, ps, h => by simp [unpv] at h
  | .tup _ :: l, ps, h => by simp [unpv] at h
  | .gl _ _ :: l, ps, h => by simp [unpv] at h
  | .ptr _ _ :: l, ps, h => by simp [unpv] at h
  | .vrow _ _ _ :: l, ps, h => by simp [unpv] at h
  | .eptr _ :: l, ps, h => by simp [unpv] at h
  | .clo _ _ :: l, ps, h => by simp [unpv] at h
def onesP : List PV → Bool
  | [] => true
  | p :: l => p.one && onesP l
theorem onesP_ok : ∀ {l : List PV}, onesP l = true → ∀ x ∈ l, x.one = true
  | p :: l, h, x, hx => by
    simp only [onesP, Bool.and_eq_true] at h
    rcases List.mem_cons.1 hx with rfl | hx
    · exact h.1
    · exact onesP_ok h.2 x hx
theorem RA.aggPV {G : Gh} {ps : List PV} {v : Value} (h : RA G (.agg (ps.map .pv)) v) (h1 : ∀ x ∈ ps, x.one = true) : RP G.dat (.agg ps) v := by
  cases h with
  | agg _ vs hl h =>
    refine .agg ps vs (by simpa using hl) h1 (fun i x u hx hu => ?_)
    have := h i (.pv x) u (by rw [List.getElem?_map, hx]; rfl) hu
    cases this with
    | pv _ _ h => exact h
theorem RP.aggAV {G : Gh} {ps : List PV} {v : Value} (h : RP G.dat (.agg ps) v) : RA G (.agg (ps.map .pv)) v := by
  cases h with
  | agg _ vs hl h1 h =>
    refine .agg _ vs (by simpa using hl) (fun i x u hx hu => ?_)
    rw [List.getElem?_map, Option.map_eq_some_iff] at hx
    obtain ⟨q, hq, rfl⟩ := hx
    exact .pv _ _ (h i q u hq hu)
section
variable {P : Program} {g : Gb} {s : St}
theorem OpOk.mkIfc {dst : Option Tmp} {t : TypeId} {y : Operand} {ty : TypeId} {pos : String} {after : Array Edge} {gd : Option (Nat × Bool)} {i : TI} {cs : List AV} {ps : List PV} (ht : tiOf P t = some i) (hk : i.desc = .str) (hy : s.ev g y = .agg cs) (hu : unpv cs = some ps) (h1 : onesP ps = true)
    (hd : ∀ t, dst = some t → t < s.n) : OpOk P g ⟨dst, .makeInterface t y, ty, pos, after, gd⟩ s (s.putO dst (.pv (.ifc t (.agg ps)))) := by
  refine OpOk.val (o := ⟨dst, .makeInterface t y, ty, pos, after, gd⟩) hd (fun cx a w G hP hg hs => ?_)
  have e1 := hs.ev hg y
  rw [hy, unpv_ok hu] at e1
  obtain ⟨d, u1, u2⟩ := tiOf_und ht
  rw [hk] at u2
  refine ⟨.iface t (a.eval y), ?_, .pv _ _ (.ifc t _ _ (e1.aggPV (onesP_ok h1)))⟩
  have hm : (Instr.makeInterface t (a.eval y)).run P w = .ok (.iface t (a.eval y)) w := by
    unfold Instr.makeInterface
    rw [Sem.run_bind, run_underlying u1 w]
    cases d <;> simp [kOf] at u2 ⊢ <;> rfl
  simp only [execOp, Sem.run_bind, hm, Result.andThen_ok]
  rfl
/-- A call, however it comes to its function. -/
theorem OpOk.callG {o : Oper} {d : Tmp} {f : FuncId} {args : List AV} {r : AV} {bs : List (Nat × Box)} (ho : o.dst = some d) (k : Nat) (hc : FnOk P g f args r bs)
    (hrun : ∀ (cx : Cx) (a : Act) (w : World) (G : Gh), cx.P = P → cx.g = g → SR cx s a w G → ∃ vals : Array Value, (execOp a.eval o).run P w = .ok (.enter f vals) w ∧ vals.size = args.length ∧ ∀ (i : Nat) x v, args[i]? = some x → vals[i]? = some v → RA G x v)
    (hcl : closed args = true) (hk : freeB k s.bx bs = true) (hkl : lnFree k g.ln bs = true) (hdr : d2 r = true) (hdb : dBs bs = true) (hd : d < s.n) : OpOk P g o s (St.put { s with bx := shBs k bs ++ s.bx } d (sh3 k r)) := by
  intro cx a w G hP hg hs K Q hK
  obtain ⟨vals, he, hsz, hvals0⟩ := hrun cx a w G hP hg hs
  unfold Oper.wp
  rw [he]
  subst hP
  subst hg
  have hvals : ∀ (i : Nat) x v, args[i]? = some x → vals[i]? = some v → RA ⟨G.dat, fun _ => none, fun _ => none⟩ x v := by
    intro i x v hx hv
    exact RA.agree (h := hvals0 i x v hx hv) (G := G) (G' := ⟨G.dat, fun _ => none, fun _ => none⟩) (D := has []) (fun _ _ _ h => h) (fun b k hD => by simp [has, look] at hD) (fun b x hD => by simp [has, look] at hD) (men3_ok (closed_mem hcl x (List.mem_of_getElem? hx)))
  have hglo : ∀ k cs, cx.g.fn k = some cs → RA ⟨G.dat, fun _ => none, fun _ => none⟩ (.eptr cs) (.pointer (some ⟨k, 0, none⟩)) := fun k cs hg =>
    RA.agree (h := hs.glo k cs hg) (G := G) (G' := ⟨G.dat, fun _ => none, fun _ => none⟩) (D := has []) (fun _ _ _ h => h) (fun b k hD => by simp [has, look] at hD) (fun b x hD => by simp [has, look] at hD) (.eptr cs)
  refine Calls.mono (hc w vals G.dat hs.dat hsz hvals hglo) ?_
  rintro e w' ⟨v, G2, rfl, h2⟩
  obtain ⟨G', h3⟩ := hs.join hk hkl hdr hdb h2 hd
  rw [ho]
  exact hK _ _ G' h3
/-- The method that a value's type has under a name, of one argument. -/
def Meth (P : Program) (t : TypeId) (name : String) (f : FuncId) : Prop := ∀ (v u : Value) (w : World), (callMethod (.iface t v) name #[u]).run P w = .ok (.enter f #[v, u]) w
theorem OpOk.invoke1 {d : Tmp} {t : TypeId} {name : String} {f : FuncId} {c y : Operand} {ts : Array TypeId} {ty : TypeId} {pos : String} {after : Array Edge} {gd : Option (Nat × Bool)} {ps : List PV} {z r : AV} (hm : Meth P t name f) (hy : s.ev g c = .pv (.ifc t (.agg ps))) (hz : AVle s (s.ev g y) z)
    (hc : FnOk P g f [.agg (ps.map .pv), z] r []) (hcl : closed [.agg (ps.map .pv), z] = true) (hdr : d2 r = true) (hd : d < s.n) :
    OpOk P g ⟨some d, .call { callee := .invoke c name, args := #[y], argTypes := ts }, ty, pos, after, gd⟩ s (s.put d r) := by
  have := OpOk.callG (s := s) (P := P) (g := g) (o := ⟨some d, .call { callee := .invoke c name, args := #[y], argTypes := ts }, ty, pos, after, gd⟩) (d := d) rfl 0 hc (fun cx a w G hP hg hs => ?_) hcl rfl rfl hdr rfl hd
  · rw [sh3_zero] at this
    exact this
  · have h1 := hs.ev hg c
    rw [hy] at h1
    generalize hv : a.eval c = v at h1
    cases h1 with
    | pv _ _ h =>
      cases h with
      | ifc _ _ u h =>
        refine ⟨#[u, a.eval y], ?_, rfl, fun i x q hx hq => ?_⟩
        · have := hm u (a.eval y) w
          simpa [execOp, resolve, hv, invoke, Sem.run_bind, Sem.run_pure, Result.andThen_ok] using this
        · match i with
          | 0 => simp at hx hq; subst hx; subst hq; exact h.aggAV
          | 1 => simp at hx hq; subst hx; subst hq; exact hs.le hz (hs.ev hg y)
          | i + 2 => simp at hx
end
section
variable {E : Env} {n : Nat} {tm : List (Nat × AV)} {bx : List (Nat × Box)} {ops : Array Oper} {l : List Oper} {d : Tmp} {ty : TypeId} {pos : String} {after : Array Edge}
theorem O.mkIfc {Θ : St → Prop} {t : TypeId} {y : Operand} {i : TI} {cs : List AV} {ps : List PV} (hE : E.Ok) (ht : E.T t = some i) (hk : i.desc = .str) (hy : evO E tm y = some (.agg cs)) (hu : unpv cs = some ps) (h1 : onesP ps = true) (hd : Nat.blt d n = true)
    (h : Ops E.P E.g ops l ⟨n, (d, .pv (.ifc t (.agg ps))) :: tm, bx⟩ Θ) : Ops E.P E.g ops (⟨some d, .makeInterface t y, ty, pos, after, none⟩ :: l) ⟨n, tm, bx⟩ Θ :=
  Ops.op rfl (OpOk.mkIfc (s := ⟨n, tm, bx⟩) (hE.t _ _ ht) hk (evO_ok hy) hu h1 (dlt hd)) h
theorem D.mkIfc {Θ : List Rec → St → Prop} {t : TypeId} {y : Operand} {i : TI} {cs : List AV} {ps : List PV} (hE : E.Ok) (ht : E.T t = some i) (hk : i.desc = .str) (hy : evO E tm y = some (.agg cs)) (hu : unpv cs = some ps) (h1 : onesP ps = true) (hd : Nat.blt d n = true)
    (h : Dr E.P E.g ops l ⟨n, (d, .pv (.ifc t (.agg ps))) :: tm, bx⟩ (fun rs => Θ (⟨rtOf y (.agg cs), [], [], some d, .pv (.ifc t (.agg ps)), []⟩ :: rs))) : Dr E.P E.g ops (⟨some d, .makeInterface t y, ty, pos, after, none⟩ :: l) ⟨n, tm, bx⟩ Θ :=
  D.of (rt := rtOf y (.agg cs)) (rb := []) (rt_now hy) none_met hd (fun s hs _ hd' => OpOk.mkIfc (s := s) (hE.t _ _ ht) hk (evO_ok (n := s.n) (bx := s.bx) (rt_ev hy hs)) hu h1 (fun t ht => by obtain rfl := Option.some.inj ht; exact hd')) h
theorem O.invoke1 {Θ : St → Prop} {t : TypeId} {name : String} {f : FuncId} {c y : Operand} {ts : Array TypeId} {ps : List PV} {z r : AV} (hc : FnC E f [.agg (ps.map .pv), z] r []) (hm : Meth E.P t name f) (hy : evO E tm c = some (.pv (.ifc t (.agg ps)))) (hz : AVle ⟨n, tm, bx⟩ (St.ev ⟨n, tm, bx⟩ E.g y) z) (hcl : closed [.agg (ps.map .pv), z] = true) (hdr : d2 r = true) (hd : Nat.blt d n = true)
    (h : Ops E.P E.g ops l ⟨n, (d, r) :: tm, bx⟩ Θ) : Ops E.P E.g ops (⟨some d, .call { callee := .invoke c name, args := #[y], argTypes := ts }, ty, pos, after, none⟩ :: l) ⟨n, tm, bx⟩ Θ :=
  Ops.op rfl (OpOk.invoke1 (s := ⟨n, tm, bx⟩) hm (evO_ok hy) hz hc.ok hcl hdr (Vm.blt hd)) h
end
end Go.Proofs.YtdigejpgjnhclaaDoor.Vm
