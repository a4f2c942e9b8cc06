/- The value machine, fifteenth part: division, shifts, sums of texts; the end of a function. Conditions: none. -/
import Derived.Test.YtcbdhdblchmofaaDoorVmN
namespace Go.Proofs.YtcbdhdblchmofaaDoor.Vm
open Go Go.RowKit
set_option linter.unusedVariables false
set_option linter.unusedSimpArgs false
section
variable {E : Env} {n : Nat} {tm : List (Nat × AV)} {bx : List (Nat × Box)} {ops : Array Oper} {l : List Oper} {Θ : St → Prop} {d : Tmp} {ty : TypeId} {pos : String} {after : Array Edge}
theorem now_bin {P : Program} {b : BinOp} {t : TypeId} {y z : Operand} {k k' : IntKind} {m j : Int} {v : Value} (h : Vm.now P (Go.binOp b t (.int k m) (.int k' j)) = some v) : Vm.now P (do eqGuard b t y z (.int k m) (.int k' j); Go.binOp b t (.int k m) (.int k' j)) = some v := by
  have : eqGuard b t y z (.int k m) (.int k' j) = pure () := by
    unfold eqGuard
    cases b <;> rfl
  rw [this]
  exact h
theorem O.rem {t t' : TypeId} {y z : Operand} {k : IntKind} {m j : Int} (hy : evO E tm y = some (.pv (.int k m))) (hz : evO E tm z = some (.pv (.int k j))) (hj : j ≠ 0) (hd : Nat.blt d n = true) (h : Ops E.P E.g ops l ⟨n, (d, .pv (.int k (m.tmod j))) :: tm, bx⟩ Θ) :
    Ops E.P E.g ops (⟨some d, .binOp .rem t y z t', ty, pos, after, none⟩ :: l) ⟨n, tm, bx⟩ Θ := by
  refine O.bin (v := .int k (m.tmod j)) hy hz rfl rfl (now_bin ?_) rfl hd h
  simp only [Go.binOp, ne_eq, not_true, if_false, Op.intDiv]
  rw [if_neg hj]; rfl
theorem O.quo {t t' : TypeId} {y z : Operand} {k : IntKind} {m j : Int} (hy : evO E tm y = some (.pv (.int k m))) (hz : evO E tm z = some (.pv (.int k j))) (hj : j ≠ 0) (hd : Nat.blt d n = true) (h : Ops E.P E.g ops l ⟨n, (d, .pv (.int k (k.wrap (m.tdiv j)))) :: tm, bx⟩ Θ) :
    Ops E.P E.g ops (⟨some d, .binOp .quo t y z t', ty, pos, after, none⟩ :: l) ⟨n, tm, bx⟩ Θ := by
  refine O.bin (v := .int k (k.wrap (m.tdiv j))) hy hz rfl rfl (now_bin ?_) rfl hd h
  simp only [Go.binOp, ne_eq, not_true, if_false, Op.intDiv]
  rw [if_neg hj]; rfl
theorem O.shl {t t' : TypeId} {y z : Operand} {k k' : IntKind} {m j : Int} (hy : evO E tm y = some (.pv (.int k m))) (hz : evO E tm z = some (.pv (.int k' j))) (hj : 0 ≤ j) (hd : Nat.blt d n = true) (h : Ops E.P E.g ops l ⟨n, (d, .pv (.int k (k.wrap (m * 2 ^ (min j.toNat k.bits))))) :: tm, bx⟩ Θ) :
    Ops E.P E.g ops (⟨some d, .binOp .shl t y z t', ty, pos, after, none⟩ :: l) ⟨n, tm, bx⟩ Θ := by
  refine O.bin (v := .int k (k.wrap (m * 2 ^ (min j.toNat k.bits)))) hy hz rfl rfl (now_bin ?_) rfl hd h
  simp only [Go.binOp, Op.shift]
  rw [if_neg (by omega)]; rfl
theorem O.shr {t t' : TypeId} {y z : Operand} {k k' : IntKind} {m j : Int} (hy : evO E tm y = some (.pv (.int k m))) (hz : evO E tm z = some (.pv (.int k' j))) (hj : 0 ≤ j) (hd : Nat.blt d n = true) (h : Ops E.P E.g ops l ⟨n, (d, .pv (.int k (m.fdiv (2 ^ (min j.toNat k.bits))))) :: tm, bx⟩ Θ) :
    Ops E.P E.g ops (⟨some d, .binOp .shr t y z t', ty, pos, after, none⟩ :: l) ⟨n, tm, bx⟩ Θ := by
  refine O.bin (v := .int k (m.fdiv (2 ^ (min j.toNat k.bits)))) hy hz rfl rfl (now_bin ?_) rfl hd h
  simp only [Go.binOp, Op.shift]
  rw [if_neg (by omega)]; rfl
theorem O.cat {t t' : TypeId} {y z : Operand} {s s' : ByteArray} (hy : evO E tm y = some (.pv (.str s))) (hz : evO E tm z = some (.pv (.str s'))) (hj : s.size + s'.size ≤ 9223372036854775807) (hd : Nat.blt d n = true) (h : Ops E.P E.g ops l ⟨n, (d, .pv (.str (s ++ s'))) :: tm, bx⟩ Θ) :
    Ops E.P E.g ops (⟨some d, .binOp .add t y z t', ty, pos, after, none⟩ :: l) ⟨n, tm, bx⟩ Θ := by
  refine O.bin (v := .string (s ++ s')) hy hz rfl rfl ?_ rfl hd h
  have hm : ¬ (((s.size + s'.size : Nat) : Int) > IntKind.i64.max) := by
    have : IntKind.i64.max = 9223372036854775807 := by decide
    rw [this]; omega
  show Vm.now E.P (Op.stringOp .add s s') = _
  unfold Op.stringOp
  simp only
  rw [if_neg hm]
  rfl
theorem now_call2 {P : Program} {b : Builtin} {x y : Operand} {ts : Array TypeId} {u v r : Value} {ρ : Operand → Value} (hx : ρ x = u) (hy : ρ y = v) (h : ∀ cs, Vm.now P (Go.builtin b ts ty cs #[u, v]) = some (.value r)) :
    Vm.now P (execOp ρ ⟨some d, .call { callee := .builtin b, args := #[x, y], argTypes := ts }, ty, pos, after, none⟩) = some (.value r) := by
  subst hx
  subst hy
  have e : execOp ρ ⟨some d, .call { callee := .builtin b, args := #[x, y], argTypes := ts }, ty, pos, after, none⟩ = Go.builtin b ts ty (#[x, y].map fun | .const _ => true | _ => false) (#[x, y].map ρ) := rfl
  rw [e]
  have e2 : #[x, y].map ρ = #[ρ x, ρ y] := by simp
  rw [e2]
  exact h _
theorem O.min {x y : Operand} {ts : Array TypeId} {k k' : IntKind} {m j : Int} (hx : evO E tm x = some (.pv (.int k m))) (hy : evO E tm y = some (.pv (.int k' j))) (hd : Nat.blt d n = true) (h : Ops E.P E.g ops l ⟨n, (d, .pv (.int k (if j < m then j else m))) :: tm, bx⟩ Θ) :
    Ops E.P E.g ops (⟨some d, .call { callee := .builtin .min, args := #[x, y], argTypes := ts }, ty, pos, after, none⟩ :: l) ⟨n, tm, bx⟩ Θ := by
  refine O.now (v := .int k (if j < m then j else m)) (by intros; intro h; cases h) (by simp [Op.operands, Call.operands, flatsO, hx, hy, AV.flat?, PV.val?]) (now_call2 (u := .int k m) (v := .int k' j) (by simp [flO, hx, AV.flat?, PV.val?]) (by simp [flO, hy, AV.flat?, PV.val?]) (fun _ => rfl)) rfl hd h
theorem O.max {x y : Operand} {ts : Array TypeId} {k k' : IntKind} {m j : Int} (hx : evO E tm x = some (.pv (.int k m))) (hy : evO E tm y = some (.pv (.int k' j))) (hd : Nat.blt d n = true) (h : Ops E.P E.g ops l ⟨n, (d, .pv (.int k (if j > m then j else m))) :: tm, bx⟩ Θ) :
    Ops E.P E.g ops (⟨some d, .call { callee := .builtin .max, args := #[x, y], argTypes := ts }, ty, pos, after, none⟩ :: l) ⟨n, tm, bx⟩ Θ := by
  refine O.now (v := .int k (if j > m then j else m)) (by intros; intro h; cases h) (by simp [Op.operands, Call.operands, flatsO, hx, hy, AV.flat?, PV.val?]) (now_call2 (u := .int k m) (v := .int k' j) (by simp [flO, hx, AV.flat?, PV.val?]) (by simp [flO, hy, AV.flat?, PV.val?]) (fun _ => rfl)) rfl hd h

/-- A function's results. -/
def resO (E : Env) (tm : List (Nat × AV)) (bx : List (Nat × Box)) : ResultVar → Option AV
  | .tmp t => look tm t
  | .cell p t => match look tm p with
    | some (.ptr b 0) => match look bx b, E.T t with
      | some (.var cs), some i => match aggD i.desc && Nat.beq cs.length i.size with
        | true => some (.agg cs)
        | false => none
      | _, _ => none
    | _ => none
def ressO (E : Env) (tm : List (Nat × AV)) (bx : List (Nat × Box)) : List ResultVar → Option (List AV)
  | [] => some []
  | x :: xs => match resO E tm bx x, ressO E tm bx xs with
    | some y, some ys => some (y :: ys)
    | _, _ => none
theorem ressO_ok (hE : E.Ok) : ∀ (l : List ResultVar) (ys : List AV), ressO E tm bx l = some ys → ress ⟨n, tm, bx⟩ l = some ys ∧ resTys E.P ⟨n, tm, bx⟩ l
  | [], ys, h => ⟨h, trivial⟩
  | x :: xs, ys, h => by
    simp only [ressO] at h
    split at h
    · rename_i y ys' h1 h2
      obtain ⟨e1, e2⟩ := ressO_ok hE xs ys' h2
      cases x with
      | tmp t =>
        simp only [resO] at h1
        refine ⟨?_, e2⟩
        simp only [ress, resAV, St.get, h1, Option.getD_some, e1]
        exact h
      | cell p t =>
        simp only [resO] at h1
        split at h1
        · rename_i b hb
          split at h1
          · rename_i cs i h3 h4
            split at h1
            · rename_i h5
              obtain rfl := Option.some.inj h1
              rw [Bool.and_eq_true] at h5
              have hg : St.get ⟨n, tm, bx⟩ p = .ptr b 0 := by simp [St.get, hb]
              refine ⟨?_, ⟨i, b, cs, hE.t _ _ h4, h5.1, hg, h3, Nat.eq_of_beq_eq_true h5.2⟩, e2⟩
              simp only [ress, resAV, hg, h3, e1]
              exact h
            · cases h1
          · cases h1
        · cases h1
    · cases h
def oneO : List AV → Option AV
  | [x] => some x
  | [] => some (.tup [])
  | x :: y :: xs => some (.tup (x :: y :: xs))
theorem Ends.of (hE : E.Ok) {fn : Func} {r y : AV} {bs : List (Nat × Box)} {x : Ex} {ys : List AV} (hx : x = .normal ∨ x = .ret) (hy : ressO E tm bx fn.results.toList = some ys) (h1 : oneO ys = some y) (hle : SLe ⟨1, [(0, y)], bx⟩ ⟨1, [(0, r)], bs⟩) : Ends E.P fn r bs x ⟨n, tm, bx⟩ := by
  obtain ⟨e1, e2⟩ := ressO_ok (n := n) hE _ _ hy
  refine ⟨hx, ys, e1, e2, ?_⟩
  have : oneOf ys = y := by
    cases ys with
    | nil => exact Option.some.inj h1
    | cons a l =>
      cases l with
      | nil => exact Option.some.inj h1
      | cons b l => exact Option.some.inj h1
  rw [this]
  exact hle
/-- A flat result. -/
theorem Ends.flat (hE : E.Ok) {fn : Func} {r y : AV} {x : Ex} {ys : List AV} (hx : x = .normal ∨ x = .ret) (hy : ressO E tm bx fn.results.toList = some ys) (h1 : oneO ys = some y) (hle : AVle ⟨1, [(0, y)], bx⟩ y r) (hm : men3 [] r = true) : Ends E.P fn r [] x ⟨n, tm, bx⟩ :=
  Ends.of hE hx hy h1 (SLe.res0 hle hm)
theorem FnC.of {f : FuncId} {fn : Func} {c : Code} {args : List AV} {r : AV} {bs : List (Nat × Box)} {tm : List (Nat × AV)} (hf : E.P.funcs[f]? = some fn) (hc : fn.body = some c) (hname : (fn.name == "runtime.NumGoroutine") = false) (hn : Nat.ble args.length fn.ntmps = true) (htm : params 0 args = tm)
    (h : Run E.P E.g c ⟨fn.ntmps, tm, []⟩ (Ends E.P fn r bs)) : FnC E f args r bs :=
  ⟨FnOk.of hf hc hn (by rw [htm]; exact h), fn, hf, hname, by rw [hc]; rfl⟩
theorem FnC.to {f : FuncId} {args : List AV} {r r' : AV} {bs bs' : List (Nat × Box)} (h : FnC E f args r bs) (hle : SLe ⟨1, [(0, r)], bs⟩ ⟨1, [(0, r')], bs'⟩) : FnC E f args r' bs' := ⟨h.ok.to hle, h.fn⟩
/-- Nil, where something will be appended: a slice of the call's own without elements. -/
theorem SLe.nilBox {t e sz b : Nat} (ht : look tm t = some (.pv .nil)) (hb : look bx b = none) (hsz : Nat.blt 0 sz = true) (hn : Nat.blt t n = true) : SLe ⟨n, tm, bx⟩ ⟨n, (t, .gl b 0) :: tm, (b, .lst e sz []) :: bx⟩ := by
  intro cx a w G hs
  have hown : G.own b = none := by simp [Gh.own, hs.blk_none hb, hs.ls_none hb]
  have h1 : RA G (.pv .nil) (a.tmps.getD t undef) := hs.slot (by simp [St.get, ht])
  have h1 : a.tmps.getD t undef = .slice none 0 0 := h1.of_val rfl
  obtain ⟨G', k1, k2, k3, k4⟩ := hs.growLst (w' := w) (b := b) (e := e) (sz := sz) (xs := []) (hh := .slice none 0 0) (us := []) (Vm.blt hsz) (hs.blk_none hb) (World.ownsRow_nil w cx.base e sz)
    ⟨by simp, fun e he => by simp at he, fun e he => by simp at he, fun i j e x v he => by simp at he⟩ hs.bel (Nat.le_refl _) (fun _ _ _ => rfl) (fun k o v hk => by rw [hown] at hk; cases hk) (.inl (by rw [hown]; rfl))
    (fun k hk => by cases hk) (fun sz0 xs0 h0 hq => by rw [hs.ls_none hb] at hq; cases hq)
  have h2 := k4.put (s := St.box ⟨n, tm, bx⟩ b (.lst e sz [])) (d := t) (x := .gl b 0) (v := .slice none 0 0) (Vm.blt hn) (.gl b 0 _ sz [] _ k2 (Nat.le_refl _) (RP.nil_lst sz) (fun _ => rfl))
  refine ⟨G', ?_⟩
  have hput : a.put (some t) (.slice none 0 0) = a := by
    unfold Act.put
    have hlt : t < a.tmps.size := by rw [hs.sz]; exact Vm.blt hn
    have hset : a.tmps.setIfInBounds t (.slice none 0 0) = a.tmps := by
      apply Array.ext'
      simp only [Array.toList_setIfInBounds]
      apply List.ext_getElem?
      intro i
      rw [List.getElem?_set]
      split
      · rename_i e
        subst e
        have : a.tmps[t]? = some (.slice none 0 0) := by
          rw [Array.getD_eq_getD_getElem?] at h1
          simpa [hlt] using h1
        simp [hlt]
        rw [Array.getElem?_eq_getElem hlt] at this
        exact (Option.some.inj this).symm
      · rfl
    simp only [hset]
  rw [hput] at h2
  exact h2
end
/-- A loop, by a number that every round lowers. -/
theorem LoopR.ind {P : Program} {g : Nat → Option (List PV)} {c : Code} {s : St} {Φ : Ex → St → Prop} {ι : Type} (Inv : ι → Prop) (S : ι → St) (μ : ι → Nat) (i : ι) (h0 : Inv i) (hs : SLe s (S i))
    (round : ∀ i, Inv i → (∀ j, Inv j → μ j < μ i → LoopR P g c (S j) Φ) → Run P g c (S i) (roundR P g c Φ)) : LoopR P g c s Φ := by
  have key : ∀ n i, μ i = n → Inv i → LoopR P g c (S i) Φ := by
    intro n
    induction n using Nat.strongRecOn with
    | _ n ih =>
      intro i hi hI
      exact LoopR.step (round i hI fun j hj hlt => ih (μ j) (hi ▸ hlt) j rfl hj)
  exact LoopR.pre hs (key _ i rfl h0)
inductive TmLe (s : St) : List (Nat × AV) → Prop
  | nil : TmLe s []
  | cons {t : Nat} {x : AV} {l : List (Nat × AV)} (h : AVle s (s.get t) x) (r : TmLe s l) : TmLe s ((t, x) :: l)
inductive BxsLe (s : St) : List (Nat × Box) → Prop
  | nil : BxsLe s []
  | cons {b : Nat} {B B' : Box} {l : List (Nat × Box)} (h : look s.bx b = some B) (k : BxLe s B B') (r : BxsLe s l) : BxsLe s ((b, B') :: l)
def mtm (bx : List (Nat × Box)) : List (Nat × AV) → Bool
  | [] => true
  | (_, x) :: l => men3 bx x && mtm bx l
def mbx (bx : List (Nat × Box)) : List (Nat × Box) → Bool
  | [] => true
  | (_, B) :: l => menB bx B && mbx bx l
theorem SLe.by {s : St} {tm : List (Nat × AV)} {bx : List (Nat × Box)} {n : Nat} (hn : s.n = n) (ht : TmLe s tm) (hb : BxsLe s bx) (hm : mtm bx tm = true) (hmb : mbx bx bx = true) : SLe s ⟨n, tm, bx⟩ := by
  subst hn
  refine SLe.mk ?_ ?_ ?_ ?_
  · clear hm
    induction ht with
    | nil => intro p hp; simp at hp
    | cons h _ ih => intro p hp; cases hp with | head => exact h | tail _ hp => exact ih p hp
  · clear hm hmb
    induction hb with
    | nil => intro p hp; simp at hp
    | cons h k _ ih => intro p hp; cases hp with | head => exact ⟨_, h, k⟩ | tail _ hp => exact ih p hp
  · have key : ∀ (bx : List (Nat × Box)) (l : List (Nat × AV)), mtm bx l = true → ∀ p ∈ l, men3 bx p.2 = true := by
      intro bx l
      induction l with
      | nil => intro _ p hp; simp at hp
      | cons q l ih =>
        intro h p hp
        obtain ⟨t, x⟩ := q
        simp only [mtm, Bool.and_eq_true] at h
        cases hp with
        | head => exact h.1
        | tail _ hp => exact ih h.2 p hp
    exact key bx tm hm
  · have key : ∀ (bx l : List (Nat × Box)), mbx bx l = true → ∀ p ∈ l, menB bx p.2 = true := by
      intro bx l
      induction l with
      | nil => intro _ p hp; simp at hp
      | cons q l ih =>
        intro h p hp
        obtain ⟨t, x⟩ := q
        simp only [mbx, Bool.and_eq_true] at h
        cases hp with
        | head => exact h.1
        | tail _ hp => exact ih h.2 p hp
    exact key bx bx hmb
theorem wrap_i64 {x : Int} (h0 : -9223372036854775808 ≤ x) (h1 : x ≤ 9223372036854775807) : IntKind.i64.wrap x = x := by
  unfold IntKind.wrap
  simp only [IntKind.bits, IntKind.signed]
  have : (2 : Int) ^ 64 = 18446744073709551616 := by decide
  have : (2 : Int) ^ (64 - 1) = 9223372036854775808 := by decide
  simp only [*, Bool.true_and, decide_eq_true_eq]
  split <;> omega
theorem wrap_u8 {x : Int} (h0 : 0 ≤ x) (h1 : x ≤ 255) : IntKind.u8.wrap x = x := by
  unfold IntKind.wrap
  simp only [IntKind.bits, IntKind.signed]
  have : (2 : Int) ^ 8 = 256 := by decide
  simp only [*, Bool.false_and, Bool.false_eq_true, if_false]
  omega
end Go.Proofs.YtcbdhdblchmofaaDoor.Vm
