/- The value machine, nineteenth part: what is told of cells that are not written out; a function of which some result is told; states that say the same. Conditions: none. -/
import Derived.Test.YtcbdhdblchmofaaDoorVmS
namespace Go.Proofs.YtcbdhdblchmofaaDoor.Vm
open Go Go.RowKit
set_option linter.unusedVariables false
theorem mens2_app {bx : List (Nat × Box)} : ∀ a b : List AV, mens2 bx (a ++ b) = (mens2 bx a && mens2 bx b)
  | [], b => rfl
  | x :: a, b => by simp only [List.cons_append, mens2, mens2_app a b, Bool.and_assoc]
theorem ds1_app : ∀ a b : List AV, ds1 (a ++ b) = (ds1 a && ds1 b)
  | [], b => rfl
  | x :: a, b => by simp only [List.cons_append, ds1, ds1_app a b, Bool.and_assoc]
theorem mens2_ints {bx : List (Nat × Box)} {k : IntKind} : ∀ l : List Int, mens2 bx (ints k l) = true
  | [] => rfl
  | x :: l => by
    show (men2 bx (.pv (.int k x)) && mens2 bx (ints k l)) = true
    rw [mens2_ints l]; rfl
theorem mens1_app {bx : List (Nat × Box)} : ∀ a b : List AV, mens1 bx (a ++ b) = (mens1 bx a && mens1 bx b)
  | [], b => rfl
  | x :: a, b => by simp only [List.cons_append, mens1, mens1_app a b, Bool.and_assoc]
theorem ds0_app : ∀ a b : List AV, ds0 (a ++ b) = (ds0 a && ds0 b)
  | [], b => rfl
  | x :: a, b => by simp only [List.cons_append, ds0, ds0_app a b, Bool.and_assoc]
theorem mens1_ints {bx : List (Nat × Box)} {k : IntKind} : ∀ l : List Int, mens1 bx (ints k l) = true
  | [] => rfl
  | x :: l => by
    show (men1 bx (.pv (.int k x)) && mens1 bx (ints k l)) = true
    rw [mens1_ints l]; rfl
theorem ds0_ints {k : IntKind} : ∀ l : List Int, ds0 (ints k l) = true
  | [] => rfl
  | x :: l => by
    show (d0 (.pv (.int k x)) && ds0 (ints k l)) = true
    rw [ds0_ints l]; rfl
theorem ds1_ints {k : IntKind} : ∀ l : List Int, ds1 (ints k l) = true
  | [] => rfl
  | x :: l => by
    show (d1 (.pv (.int k x)) && ds1 (ints k l)) = true
    rw [ds1_ints l]; rfl
theorem ones_app : ∀ a b : List AV, ones (a ++ b) = (ones a && ones b)
  | [], b => rfl
  | x :: a, b => by simp only [List.cons_append, ones, ones_app a b, Bool.and_assoc]
theorem ones_ints {k : IntKind} : ∀ l : List Int, ones (ints k l) = true
  | [] => rfl
  | x :: l => by
    show (AV.one (.pv (.int k x)) && ones (ints k l)) = true
    rw [ones_ints l]; rfl
theorem cells_ones {cs : List AV} (h : ones cs = true) : (AV.agg cs).cells? = some cs := by
  simp only [AV.cells?, h, cond_true]
theorem vals_ints {k : IntKind} : ∀ l : List Int, vals? (ints k l) = some (l.map (Value.int k))
  | [] => rfl
  | x :: l => by
    show (match AV.val? (.pv (.int k x)), vals? (ints k l) with | some v, some vs => some (v :: vs) | _, _ => none) = _
    rw [vals_ints l]; rfl
theorem ofPVs_ints {k : IntKind} (l : List Int) : (l.map (PV.int k)).map AV.pv = ints k l := by simp [ints]
section
variable {E : Env} {n : Nat} {tm tm' : List (Nat × AV)} {bx bx' : List (Nat × Box)}
/-- A function of which some result is told. -/
theorem FnC.ofEx {f : FuncId} {fn : Func} {c : Code} {args : List AV} {tm : List (Nat × AV)} {Q : AV → Prop} (hf : E.P.funcs[f]? = some fn) (hc : fn.body = some c) (hname : (fn.name == "runtime.NumGoroutine") = false) (hn : Nat.ble args.length fn.ntmps = true) (htm : params 0 args = tm)
    (h : Run E.P E.g c ⟨fn.ntmps, tm, []⟩ (fun x s => ∃ r, Q r ∧ Ends E.P fn r [] x s)) : ∃ r, Q r ∧ FnC E f args r [] := by
  obtain ⟨x, s', h1, r, hq, he⟩ := h
  exact ⟨r, hq, FnC.of hf hc hname hn htm ⟨x, s', h1, he⟩⟩
/-- An end whose results are given one by one. -/
inductive ResIs (E : Env) (tm : List (Nat × AV)) (bx : List (Nat × Box)) : List ResultVar → List AV → Prop
  | nil : ResIs E tm bx [] []
  | tmp {t : Nat} {x : AV} {l : List ResultVar} {ys : List AV} (h : look tm t = some x) (r : ResIs E tm bx l ys) : ResIs E tm bx (.tmp t :: l) (x :: ys)
  | cell {p : Nat} {t : TypeId} {b : Nat} {cs : List AV} {i : TI} {l : List ResultVar} {ys : List AV} (hp : look tm p = some (.ptr b 0)) (hb : look bx b = some (.var cs)) (ht : E.T t = some i) (ha : aggD i.desc = true) (hl : cs.length = i.size) (r : ResIs E tm bx l ys) : ResIs E tm bx (.cell p t :: l) (.agg cs :: ys)
theorem ResIs.ok (hE : E.Ok) {l : List ResultVar} {ys : List AV} (h : ResIs E tm bx l ys) : ress ⟨n, tm, bx⟩ l = some ys ∧ resTys E.P ⟨n, tm, bx⟩ l := by
  induction h with
  | nil => exact ⟨rfl, trivial⟩
  | @tmp t x l ys h r ih =>
    obtain ⟨e1, e2⟩ := ih
    refine ⟨?_, e2⟩
    simp only [ress, resAV, St.get, h, Option.getD_some, e1]
  | @cell p t b cs i l ys hp hb ht ha hl r ih =>
    obtain ⟨e1, e2⟩ := ih
    have hg : St.get ⟨n, tm, bx⟩ p = .ptr b 0 := by simp [St.get, hp]
    refine ⟨?_, ⟨i, b, cs, hE.t _ _ ht, ha, hg, hb, hl⟩, e2⟩
    simp only [ress, resAV, hg, hb, e1]
theorem Ends.ex (hE : E.Ok) {fn : Func} {r : AV} {x : Ex} {ys : List AV} (hx : x = .normal ∨ x = .ret) (hy : ResIs E tm bx fn.results.toList ys) (h1 : oneO ys = some r) (hm : men3 [] r = true) : Ends E.P fn r [] x ⟨n, tm, bx⟩ := by
  obtain ⟨e1, e2⟩ := hy.ok (n := n) hE
  refine ⟨hx, ys, e1, e2, ?_⟩
  have : oneOf ys = r := by
    cases ys with
    | nil => exact Option.some.inj h1
    | cons a l =>
      cases l with
      | nil => exact Option.some.inj h1
      | cons b l => exact Option.some.inj h1
  rw [this]
  exact SLe.res0 (AVle.of_eq rfl) hm
inductive TmIn (tm : List (Nat × AV)) : List (Nat × AV) → Prop
  | nil : TmIn tm []
  | cons {t : Nat} {x : AV} {l : List (Nat × AV)} (h : look tm t = some x) (r : TmIn tm l) : TmIn tm ((t, x) :: l)
inductive BxIn (bx : List (Nat × Box)) : List (Nat × Box) → Prop
  | nil : BxIn bx []
  | cons {b : Nat} {B : Box} {l : List (Nat × Box)} (h : look bx b = some B) (r : BxIn bx l) : BxIn bx ((b, B) :: l)
theorem TmIn.get {l : List (Nat × AV)} (h : TmIn tm l) (t : Nat) : look l t = none ∨ look l t = look tm t := by
  induction h with
  | nil => exact .inl rfl
  | @cons k x l h r ih =>
    rw [look_cons]
    by_cases e : k = t
    · rw [if_pos e]; subst e; exact .inr h.symm
    · rw [if_neg e]; exact ih
theorem BxIn.get {l : List (Nat × Box)} (h : BxIn bx l) (t : Nat) : look l t = none ∨ look l t = look bx t := by
  induction h with
  | nil => exact .inl rfl
  | @cons k x l h r ih =>
    rw [look_cons]
    by_cases e : k = t
    · rw [if_pos e]; subst e; exact .inr h.symm
    · rw [if_neg e]; exact ih
def allIn (bx' : List (Nat × Box)) : List (Nat × Box) → Bool
  | [] => true
  | (b, _) :: l => (look bx' b).isSome && allIn bx' l
theorem allIn_ok {bx' : List (Nat × Box)} : ∀ {l : List (Nat × Box)}, allIn bx' l = true → ∀ b, look l b ≠ none → look bx' b ≠ none
  | [], _, b, h => absurd rfl h
  | (c, B) :: l, h, b, hb => by
    simp only [allIn, Bool.and_eq_true] at h
    rw [look_cons] at hb
    by_cases e : c = b
    · subst e
      intro h0
      rw [h0] at h
      simp at h
    · rw [if_neg e] at hb
      exact allIn_ok h.2 b hb
/-- Two states that say the same of what the second one tells, with the same boxes. -/
theorem SLe.eqv (ht : TmIn tm tm') (hb : BxIn bx bx') (ha : allIn bx' bx = true) : SLe ⟨n, tm, bx⟩ ⟨n, tm', bx'⟩ := by
  intro cx a w G h
  have hl : ∀ b, look bx' b = look bx b := fun b => by
    rcases hb.get b with e | e
    · have := allIn_ok ha b
      rw [e] at this ⊢
      cases hq : look bx b with
      | none => rfl
      | some B => exact absurd rfl (this (by rw [hq]; simp))
    · exact e
  refine ⟨G, fun t => ?_, h.sz, h.df, h.dat, fun b B hB => h.bx b B (by rw [← hl b]; exact hB), fun b k hk => ?_, fun b x hx => ?_, h.inj, h.bel, h.low, h.glo, h.bas⟩
  · rcases ht.get t with e | e
    · have : St.get ⟨n, tm', bx'⟩ t = .any := by simp [St.get, e]
      rw [this]
      exact .any _
    · have : St.get ⟨n, tm', bx'⟩ t = St.get ⟨n, tm, bx⟩ t := by simp [St.get, e]
      rw [this]
      exact h.tm t
  · obtain ⟨cs, h1⟩ := h.gb b k hk
    exact ⟨cs, by rw [← h1]; exact hl b⟩
  · obtain ⟨e, sz, xs, h1⟩ := h.gl b x hx
    exact ⟨e, sz, xs, by rw [← h1]; exact hl b⟩
/-- Boxes given up. -/
theorem SLe.drop (ht : TmIn tm tm') (hb : BxIn bx bx') (hm : mtm bx' tm' = true) (hmb : mbx bx' bx' = true) : SLe ⟨n, tm, bx⟩ ⟨n, tm', bx'⟩ := by
  refine SLe.by rfl ?_ ?_ hm hmb
  · clear hm
    induction ht with
    | nil => exact .nil
    | @cons k x l h r ih => exact .cons (AVle.of_eq (by simp [St.get, h])) ih
  · clear hm hmb
    induction hb with
    | nil => exact .nil
    | @cons k x l h r ih => exact .cons h (.refl _) ih
end
theorem blockR_exit {id : Nat} {Φ : Ex → St → Prop} {s : St} (h : Φ .normal s) : blockR id Φ (.exit id) s := by
  show (if id = id then Φ .normal s else Φ (.exit id) s)
  rw [if_pos rfl]
  exact h
theorem glo_ev {E : Env} {tm : List (Nat × AV)} {k : Nat} {cs : List PV} (h : E.g k = some cs) : evO E tm (.global k) = some (.eptr cs) := by simp only [evO, h]; rfl
theorem drop_at {k : IntKind} {ks : List Int} {i : Nat} (h : i < ks.length) : ((ks.map (PV.int k)).drop i)[0]? = some (.int k (ks.getD i 0)) := by
  simp [List.getElem?_drop, List.getElem?_map, List.getElem?_eq_getElem h, List.getD_eq_getElem?_getD]
theorem set8 {k : IntKind} {cs : List AV} {a0 a1 a2 a3 a4 a5 a6 a7 : Int} (h : cs.length = 8) : setAt cs 0 [.pv (.int k a0), .pv (.int k a1), .pv (.int k a2), .pv (.int k a3), .pv (.int k a4), .pv (.int k a5), .pv (.int k a6), .pv (.int k a7)] = ints k [a0, a1, a2, a3, a4, a5, a6, a7] := by
  rw [setAt_all _ _ (by simp [h])]; rfl
theorem thenR_exit {P : Program} {g : Nat → Option (List PV)} {c : Code} {id : Nat} {Φ : Ex → St → Prop} {s : St} (h : Φ (.exit id) s) : thenR P g c Φ (.exit id) s := h
theorem roundR_exit {P : Program} {g : Nat → Option (List PV)} {c : Code} {id : Nat} {Φ : Ex → St → Prop} {s : St} (h : Φ (.exit id) s) : roundR P g c Φ (.exit id) s := h
theorem blockR_pass {id i : Nat} {Φ : Ex → St → Prop} {s : St} (hi : Nat.beq i id = false) (h : Φ (.exit i) s) : blockR id Φ (.exit i) s := by
  show (if i = id then Φ .normal s else Φ (.exit i) s)
  rw [if_neg (fun e => by subst e; rw [Nat.beq_refl] at hi; cases hi)]
  exact h
theorem thenR_ret {P : Program} {g : Nat → Option (List PV)} {c : Code} {Φ : Ex → St → Prop} {s : St} (h : Φ .ret s) : thenR P g c Φ .ret s := h
theorem roundR_ret {P : Program} {g : Nat → Option (List PV)} {c : Code} {Φ : Ex → St → Prop} {s : St} (h : Φ .ret s) : roundR P g c Φ .ret s := h
theorem blockR_ret {id : Nat} {Φ : Ex → St → Prop} {s : St} (h : Φ .ret s) : blockR id Φ .ret s := h
/-- A loop that ends in one way: from an invariant. -/
theorem Run.loopInv {P : Program} {g : Nat → Option (List PV)} {c : Code} {s : St} {Φ : Ex → St → Prop} {ι : Type} (Inv : ι → Prop) (S : ι → St) (μ : ι → Nat) (i : ι) (h0 : Inv i) (hs : SLe s (S i))
    (round : ∀ i, Inv i → (∀ j s', SLe s' (S j) → Inv j → μ j < μ i → roundR P g c Φ .normal s') → Run P g c (S i) (roundR P g c Φ)) : Run P g (.loop c) s Φ := by
  refine LoopR.run (LoopR.ind Inv S μ i h0 hs fun i hi ih => ?_)
  exact round i hi fun j s' hle hj hlt => LoopR.pre hle (ih j hj hlt)

section
variable {P : Program} {g : Nat → Option (List PV)} {s : St}
/-- An array written out. -/
theorem OpOk.buildArr {dst : Option Tmp} {t e : TypeId} {len : Nat} {parts : Array (Nat × Operand)} {ty : TypeId} {pos : String} {after : Array Edge} {gd : Option (Nat × Bool)} {i ie : TI} {cs : List AV} (ht : tiOf P t = some i) (hk : i.desc = .arr len e) (he : tiOf P e = some ie)
    (hf : fillAV (fun j => some (j * ie.size, ie.size)) s g (i.zero.map .pv) parts.toList = some cs) (hd : ∀ t, dst = some t → t < s.n) : OpOk P g ⟨dst, .build t parts, ty, pos, after, gd⟩ s (s.putO dst (.agg cs)) := by
  refine OpOk.val (o := ⟨dst, .build t parts, ty, pos, after, gd⟩) hd (fun cx a w G hP hg hs => ?_)
  obtain ⟨inf, z, dd, i1, i2, i3, i4, i5, i6, i7⟩ := tiOf_ok ht
  obtain ⟨e1, e2⟩ := pvOfs_ok (G := G) _ _ i7
  obtain ⟨rs, k1, k2, k3⟩ := run_fill hs hg parts.toList _ cs z.cells hf (by simpa using e1) (fun j x v hx hv => e2 j x v hx (by rwa [Array.getElem?_toList]))
  refine ⟨.agg rs, ?_, .agg cs rs k2 k3⟩
  have hu := run_underlying (tiOf_arr ht hk) w
  have hz : (zeroValue t).run P w = .ok z w := by simp [zeroValue, typeInfo, i1, i6]
  have hse := tiOf_size he w
  have hp : (parts.map fun (x : Nat × Operand) => (x.1, a.eval x.2)).toList = parts.toList.map fun (x : Nat × Operand) => (x.1, a.eval x.2) := by simp
  have hrun : (execOp a.eval ⟨dst, .build t parts, ty, pos, after, gd⟩).run P w = .ok (.value (.agg rs)) w := by
    simp only [execOp, Instr.build, Sem.run_bind, hz, hu, hse, Result.andThen_ok]
    have : Instr.fill (fun i => some (i * ie.size, ie.size)) z.cells (parts.map fun (x : Nat × Operand) => (x.1, a.eval x.2)).toList = some rs := by rw [hp]; exact k1
    rw [this]
    rfl
  subst hP
  exact hrun
end
section
variable {E : Env} {n : Nat} {tm : List (Nat × AV)} {bx : List (Nat × Box)} {ops : Array Oper} {l : List Oper} {Θ : St → Prop} {d : Tmp} {ty : TypeId} {pos : String} {after : Array Edge}
theorem O.buildArr {t e : TypeId} {len : Nat} {parts : Array (Nat × Operand)} {i ie : TI} {zs cs : List AV} (hE : E.Ok) (ht : E.T t = some i) (hk : i.desc = .arr len e) (he : E.T e = some ie) (hz : pvsO i.zero = some zs) (hf : fillO E (fun j => some (j * ie.size, ie.size)) tm zs parts.toList = some cs) (hd : Nat.blt d n = true)
    (h : Ops E.P E.g ops l ⟨n, (d, .agg cs) :: tm, bx⟩ Θ) : Ops E.P E.g ops (⟨some d, .build t parts, ty, pos, after, none⟩ :: l) ⟨n, tm, bx⟩ Θ :=
  Ops.op rfl (OpOk.buildArr (hE.t _ _ ht) hk (hE.t _ _ he) (by rw [← pvsO_ok _ _ hz]; exact fillO_ok _ _ _ hf) (dlt hd)) h
theorem O.build0 {t e : TypeId} {len : Nat} {i ie : TI} {cs : List AV} (hE : E.Ok) (ht : E.T t = some i) (hk : i.desc = .arr len e) (he : E.T e = some ie) (hz : i.zero.map .pv = cs) (hd : Nat.blt d n = true)
    (h : Ops E.P E.g ops l ⟨n, (d, .agg cs) :: tm, bx⟩ Θ) : Ops E.P E.g ops (⟨some d, .build t #[], ty, pos, after, none⟩ :: l) ⟨n, tm, bx⟩ Θ :=
  Ops.op rfl (OpOk.buildArr (hE.t _ _ ht) hk (hE.t _ _ he) (congrArg some hz) (dlt hd)) h
end
end Go.Proofs.YtcbdhdblchmofaaDoor.Vm
