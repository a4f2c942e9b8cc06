/- The value machine, eleventh part: the rules once more, for states that are written out, so that each step is found by reckoning. Conditions: none. -/
import Derived.Test.YtcbdhdblchmofaaDoorVmJ
namespace Go.Proofs.YtcbdhdblchmofaaDoor.Vm
open Go Go.RowKit
set_option linter.unusedVariables false
set_option linter.unusedSimpArgs false

structure Env where
  P : Program
  g : Nat → Option (List PV)
  T : Nat → Option TI
  L : Nat → Option (List (Nat × Nat))
structure Env.Ok (E : Env) : Prop where
  t : ∀ t i, E.T t = some i → tiOf E.P t = some i
  l : ∀ t i, E.L t = some i → laysOf E.P t = some i

def takeO {α : Type} : Nat → List α → Option (List α)
  | 0, _ => some []
  | n + 1, x :: xs => match takeO n xs with
    | some l => some (x :: l)
    | none => none
  | _ + 1, [] => none
theorem takeO_ok {α : Type} : ∀ (n : Nat) (l r : List α), takeO n l = some r → r = l.take n ∧ n ≤ l.length
  | 0, l, r, h => by obtain rfl := Option.some.inj h; simp
  | n + 1, [], r, h => by cases h
  | n + 1, x :: xs, r, h => by
    simp only [takeO] at h
    split at h
    · rename_i l hl
      obtain rfl := Option.some.inj h
      obtain ⟨e1, e2⟩ := takeO_ok n xs l hl
      simp [e1, e2]
    · cases h
def dropO {α : Type} : Nat → List α → Option (List α)
  | 0, l => some l
  | n + 1, _ :: xs => dropO n xs
  | _ + 1, [] => none
theorem dropO_ok {α : Type} : ∀ (n : Nat) (l r : List α), dropO n l = some r → r = l.drop n ∧ n ≤ l.length
  | 0, l, r, h => by obtain rfl := Option.some.inj h; simp
  | n + 1, [], r, h => by cases h
  | n + 1, x :: xs, r, h => by
    simp only [dropO] at h
    obtain ⟨e1, e2⟩ := dropO_ok n xs r h
    simp [e1, e2]
def appO {α : Type} : List α → List α → Option (List α)
  | [], l => some l
  | x :: xs, l => match appO xs l with
    | some r => some (x :: r)
    | none => none
theorem appO_ok {α : Type} : ∀ (l m r : List α), appO l m = some r → r = l ++ m
  | [], m, r, h => by obtain rfl := Option.some.inj h; rfl
  | x :: xs, m, r, h => by
    simp only [appO] at h
    split at h
    · rename_i q hq
      obtain rfl := Option.some.inj h
      rw [appO_ok xs m q hq]; rfl
    · cases h
def setO {α : Type} (cs : List α) (o : Nat) (ys : List α) : Option (List α) :=
  match takeO o cs, dropO (o + ys.length) cs with
  | some a, some b => match appO ys b with
    | some c => appO a c
    | none => none
  | _, _ => none
theorem setO_ok {α : Type} {cs ys r : List α} {o : Nat} (h : setO cs o ys = some r) : setAt cs o ys = r ∧ o + ys.length ≤ cs.length := by
  unfold setO at h
  split at h
  · rename_i a b h1 h2
    split at h
    · rename_i c h3
      obtain ⟨e1, _⟩ := takeO_ok _ _ _ h1
      obtain ⟨e2, e3⟩ := dropO_ok _ _ _ h2
      have e4 := appO_ok _ _ _ h3
      have e5 := appO_ok _ _ _ h
      refine ⟨?_, e3⟩
      rw [e5, e4, e1, e2]
      simp [setAt]
    · cases h
  · cases h
def pvsO : List PV → Option (List AV)
  | [] => some []
  | x :: xs => match pvsO xs with
    | some l => some (.pv x :: l)
    | none => none
theorem pvsO_ok : ∀ (l : List PV) (r : List AV), pvsO l = some r → r = l.map .pv
  | [], r, h => by obtain rfl := Option.some.inj h; rfl
  | x :: xs, r, h => by
    simp only [pvsO] at h
    split at h
    · rename_i q hq
      obtain rfl := Option.some.inj h
      rw [pvsO_ok xs q hq]; rfl
    · cases h

def evO (E : Env) (tm : List (Nat × AV)) : Operand → Option AV
  | .tmp t => look tm t
  | .const v => AV.ofVal v
  | .global k => (E.g k).map .eptr
  | .func f => some (.clo f [])
section
variable {E : Env} {n : Nat} {tm : List (Nat × AV)} {bx : List (Nat × Box)} {ops : Array Oper} {l : List Oper} {Θ : St → Prop} {d : Tmp} {ty : TypeId} {pos : String} {after : Array Edge}
theorem evO_ok {y : Operand} {x : AV} (h : evO E tm y = some x) : St.ev ⟨n, tm, bx⟩ E.g y = x := by
  cases y with
  | tmp t => simp only [evO] at h; simp [St.ev, St.get, h]
  | const v => simp only [evO] at h; simp [St.ev, h]
  | global k =>
    simp only [evO, Option.map_eq_some_iff] at h
    obtain ⟨cs, h1, rfl⟩ := h
    simp [St.ev, h1]
  | func f => exact Option.some.inj h

def cellsO (bx : List (Nat × Box)) : AV → Option (List AV)
  | .ptr b o => match look bx b with
    | some (.var cs) => dropO o cs
    | _ => none
  | .eptr cs => pvsO cs
  | _ => none
theorem cellsO_ok {z : AV} {cs : List AV} (h : cellsO bx z = some cs) : St.cellsAt ⟨n, tm, bx⟩ z = some cs := by
  cases z with
  | ptr b o =>
    simp only [cellsO] at h
    split at h
    · rename_i cs0 h1
      simp only [St.cellsAt, h1]
      rw [(dropO_ok _ _ _ h).1]
    · cases h
  | eptr cs0 => rw [St.cellsAt, pvsO_ok _ _ h]
  | _ => cases h
def loadO (i : TI) (cs : List AV) : Option AV :=
  match aggD i.desc with
  | true => match takeO i.size cs with
    | some l => some (.agg l)
    | none => none
  | false => match cs with
    | x :: _ => some x
    | [] => none
theorem loadO_ok {i : TI} {cs : List AV} {x : AV} (h : loadO i cs = some x) : loadAV i cs = some x := by
  unfold loadO at h
  unfold loadAV
  split at h
  · rename_i ha
    rw [ha]
    split at h
    · rename_i q hq
      obtain rfl := Option.some.inj h
      obtain ⟨e1, e2⟩ := takeO_ok _ _ _ hq
      simp [Nat.ble_eq_true_of_le e2, e1]
    · cases h
  · rename_i ha
    rw [ha]
    split at h
    · obtain rfl := Option.some.inj h; rfl
    · cases h

theorem O.move {y : Operand} {x : AV} (hx : evO E tm y = some x) (hd : Nat.blt d n = true) (h : Ops E.P E.g ops l ⟨n, (d, x) :: tm, bx⟩ Θ) : Ops E.P E.g ops (⟨some d, .move y, ty, pos, after, none⟩ :: l) ⟨n, tm, bx⟩ Θ :=
  Ops.op rfl (OpOk.move (evO_ok hx) (dlt hd)) h
theorem O.assign {y : Operand} {x : AV} (hx : evO E tm y = some x) (hd : Nat.blt d n = true) (h : Ops E.P E.g ops l ⟨n, (d, x) :: tm, bx⟩ Θ) : Ops E.P E.g ops (⟨some d, .assign y, ty, pos, after, none⟩ :: l) ⟨n, tm, bx⟩ Θ :=
  Ops.op rfl (OpOk.assign (evO_ok hx) (dlt hd)) h
/-- An operation whose guard is met. -/
theorem O.yes {o : Option Tmp} {op : Op} {j t : Nat} {b want : Bool} (hj : (ops[j]?).bind (·.dst) = some t) (ht : look tm t = some (.pv (.bool b))) (hb : b = want) (h : Ops E.P E.g ops (⟨o, op, ty, pos, after, none⟩ :: l) ⟨n, tm, bx⟩ Θ) :
    Ops E.P E.g ops (⟨o, op, ty, pos, after, some (j, want)⟩ :: l) ⟨n, tm, bx⟩ Θ := by
  obtain ⟨s', h1, h2⟩ := h
  refine ⟨s', ?_, h2⟩
  intro cx a w G hP hg hs Q hQ
  have hgt : St.get ⟨n, tm, bx⟩ t = .pv (.bool b) := by simp [St.get, ht]
  have hy := yielded_of hj (hs.boolSlot hgt)
  have h3 := h1 cx a w G hP hg hs Q hQ
  unfold wpList at h3 ⊢
  rw [if_pos (by simp [Region.wanted])] at h3
  rw [if_pos (by simp [Region.wanted, hy, hb])]
  exact h3
theorem O.no {op : Op} {j t : Nat} {want : Bool} {x : AV} (hj : (ops[j]?).bind (·.dst) = some t) (ht : look tm t = some x) (hb : offB want x = true) (hd : Nat.blt d n = true) (h : Ops E.P E.g ops l ⟨n, (d, .tup []) :: tm, bx⟩ Θ) :
    Ops E.P E.g ops (⟨some d, op, ty, pos, after, some (j, want)⟩ :: l) ⟨n, tm, bx⟩ Θ :=
  Ops.no rfl hj (by simp [St.get, ht]) hb hd h
theorem O.pick {c y z : Operand} {b : Bool} {u v x : AV} (hc : evO E tm c = some (.pv (.bool b))) (hy : evO E tm y = some u) (hz : evO E tm z = some v) (hx : (match b with | true => some u | false => some v) = some x) (hd : Nat.blt d n = true) (h : Ops E.P E.g ops l ⟨n, (d, x) :: tm, bx⟩ Θ) :
    Ops E.P E.g ops (⟨some d, .pick c y z, ty, pos, after, none⟩ :: l) ⟨n, tm, bx⟩ Θ :=
  Ops.op rfl (OpOk.pick (evO_ok hc) (by rw [evO_ok hy, evO_ok hz]; cases b <;> exact Option.some.inj hx) (dlt hd)) h
theorem O.pickT {c y z : Operand} {b : Bool} {x : AV} (hc : evO E tm c = some (.pv (.bool b))) (hb : b = true) (hy : evO E tm y = some x) (hd : Nat.blt d n = true) (h : Ops E.P E.g ops l ⟨n, (d, x) :: tm, bx⟩ Θ) :
    Ops E.P E.g ops (⟨some d, .pick c y z, ty, pos, after, none⟩ :: l) ⟨n, tm, bx⟩ Θ :=
  Ops.op rfl (OpOk.pick (evO_ok hc) (by subst hb; exact evO_ok hy) (dlt hd)) h
theorem O.pickF {c y z : Operand} {b : Bool} {x : AV} (hc : evO E tm c = some (.pv (.bool b))) (hb : b = false) (hz : evO E tm z = some x) (hd : Nat.blt d n = true) (h : Ops E.P E.g ops l ⟨n, (d, x) :: tm, bx⟩ Θ) :
    Ops E.P E.g ops (⟨some d, .pick c y z, ty, pos, after, none⟩ :: l) ⟨n, tm, bx⟩ Θ :=
  Ops.op rfl (OpOk.pick (evO_ok hc) (by subst hb; exact evO_ok hz) (dlt hd)) h

def flO (E : Env) (tm : List (Nat × AV)) (x : Operand) : Value := ((evO E tm x).bind AV.flat?).getD undef
def flatsO (E : Env) (tm : List (Nat × AV)) : List Operand → Bool
  | [] => true
  | x :: xs => ((evO E tm x).bind AV.flat?).isSome && flatsO E tm xs
theorem flatsO_ok : ∀ (xs : List Operand), flatsO E tm xs = true → flats ⟨n, tm, bx⟩ E.g xs = true ∧ ∀ x ∈ xs, St.fl ⟨n, tm, bx⟩ E.g x = flO E tm x
  | [], _ => ⟨rfl, fun x hx => by simp at hx⟩
  | x :: xs, h => by
    simp only [flatsO, Bool.and_eq_true] at h
    obtain ⟨e1, e2⟩ := flatsO_ok xs h.2
    obtain ⟨u, hu⟩ := Option.isSome_iff_exists.1 h.1
    rw [Option.bind_eq_some_iff] at hu
    obtain ⟨y, hy, hu⟩ := hu
    have hev : St.ev ⟨n, tm, bx⟩ E.g x = y := evO_ok hy
    refine ⟨by simp [flats, hev, hu, e1], fun z hz => ?_⟩
    cases hz with
    | head => simp [St.fl, flO, hev, hy, hu]
    | tail _ hz => exact e2 z hz
/-- A scalar operation: as the model reckons it. -/
theorem O.now {op : Op} {v : Value} {x : AV} (hsel : ∀ cs b, op ≠ .select cs b) (hl : flatsO E tm op.operands.toList = true) (hn : Vm.now E.P (execOp (flO E tm) ⟨some d, op, ty, pos, after, none⟩) = some (.value v)) (hx : AV.ofVal v = some x) (hd : Nat.blt d n = true)
    (h : Ops E.P E.g ops l ⟨n, (d, x) :: tm, bx⟩ Θ) : Ops E.P E.g ops (⟨some d, op, ty, pos, after, none⟩ :: l) ⟨n, tm, bx⟩ Θ := by
  obtain ⟨e1, e2⟩ := flatsO_ok (n := n) (bx := bx) _ hl
  refine Ops.op rfl (OpOk.now hsel e1 ?_ hx (dlt hd)) h
  rw [← hn]
  congr 1
  exact execOp_congr _ hsel fun y hy => e2 y (by simpa using hy)
/-- A scalar operation of two numbers, of texts, of truths. -/
theorem O.bin {b : BinOp} {t t' : TypeId} {y z : Operand} {p q : PV} {u u' v : Value} {x : AV} (hy : evO E tm y = some (.pv p)) (hz : evO E tm z = some (.pv q)) (hp : p.val? = some u) (hq : q.val? = some u') (hn : Vm.now E.P (do eqGuard b t y z u u'; Go.binOp b t u u') = some v) (hx : AV.ofVal v = some x) (hd : Nat.blt d n = true)
    (h : Ops E.P E.g ops l ⟨n, (d, x) :: tm, bx⟩ Θ) : Ops E.P E.g ops (⟨some d, .binOp b t y z t', ty, pos, after, none⟩ :: l) ⟨n, tm, bx⟩ Θ := by
  refine Ops.op rfl (OpOk.val (o := ⟨some d, .binOp b t y z t', ty, pos, after, none⟩) (dlt hd) (fun cx a w G hP hg hs => ⟨v, ?_, RA.ofVal hx⟩)) h
  have h1 := hs.ev hg y
  have h2 := hs.ev hg z
  rw [evO_ok hy] at h1
  rw [evO_ok hz] at h2
  have e1 : a.eval y = u := h1.of_val hp
  have e2 : a.eval z = u' := h2.of_val hq
  have := now_run _ w hn
  simp only [execOp, e1, e2]
  rw [Sem.run_bind (P := E.P) (w := w)]
  refine Eq.trans (congrArg (fun r => Result.andThen r _) this) ?_
  rfl
theorem O.un {b : UnOp} {t : TypeId} {y : Operand} {p : PV} {u v : Value} {x : AV} (hy : evO E tm y = some (.pv p)) (hp : p.val? = some u) (hn : Vm.now E.P (Op.unary b u) = some v) (hx : AV.ofVal v = some x) (hd : Nat.blt d n = true)
    (h : Ops E.P E.g ops l ⟨n, (d, x) :: tm, bx⟩ Θ) : Ops E.P E.g ops (⟨some d, .unOp b t y, ty, pos, after, none⟩ :: l) ⟨n, tm, bx⟩ Θ := by
  refine Ops.op rfl (OpOk.val (o := ⟨some d, .unOp b t y, ty, pos, after, none⟩) (dlt hd) (fun cx a w G hP hg hs => ⟨v, ?_, RA.ofVal hx⟩)) h
  have h1 := hs.ev hg y
  rw [evO_ok hy] at h1
  have e1 : a.eval y = u := h1.of_val hp
  have := now_run _ w hn
  simp only [execOp, e1, Sem.run_bind, this, Result.andThen_ok, Sem.run_pure]
/-- A number turned into another kind. -/
theorem O.conv {sr t : TypeId} {y : Operand} {k k' : IntKind} {m : Int} {i is : TI} (hE : E.Ok) (hs0 : E.T sr = some is) (ht : E.T t = some i) (hk : i.desc = .int k') (hy : evO E tm y = some (.pv (.int k m))) (hd : Nat.blt d n = true)
    (h : Ops E.P E.g ops l ⟨n, (d, .pv (.int k' (k'.wrap m))) :: tm, bx⟩ Θ) : Ops E.P E.g ops (⟨some d, .convert sr t y, ty, pos, after, none⟩ :: l) ⟨n, tm, bx⟩ Θ := by
  refine Ops.op rfl (OpOk.val (o := ⟨some d, .convert sr t y, ty, pos, after, none⟩) (dlt hd) (fun cx a w G hP hg hs => ⟨.int k' (k'.wrap m), ?_, .pv _ _ (.int _ _)⟩)) h
  have h1 := hs.ev hg y
  rw [evO_ok hy] at h1
  obtain ⟨ds, u1, _⟩ := tiOf_und (hE.t _ _ hs0)
  have u2 := tiOf_int (hE.t _ _ ht) hk
  have : (convert sr t (.int k m)).run E.P w = .ok (.int k' (k'.wrap m)) w := by
    unfold convert
    rw [Sem.run_bind, run_underlying u1 w]
    simp only [Result.andThen_ok]
    rw [Sem.run_bind, run_underlying u2 w]
    simp only [Result.andThen_ok]
    rfl
  simp only [execOp, h1.int, Sem.run_bind, this, Result.andThen_ok, Sem.run_pure]

def fresh : List (Nat × Box) → Nat
  | [] => 0
  | (b, _) :: l => Nat.max (b + 1) (fresh l)
theorem O.box {t : TypeId} {y : Operand} {z : AV} {cs : List AV} (b : Nat) (hy : evO E tm y = some z) (hc : z.cells? = some cs) (hb : look bx b = none) (hd : Nat.blt d n = true) (h : Ops E.P E.g ops l ⟨n, (d, .ptr b 0) :: tm, (b, .var cs) :: bx⟩ Θ) :
    Ops E.P E.g ops (⟨some d, .box t y, ty, pos, after, none⟩ :: l) ⟨n, tm, bx⟩ Θ :=
  Ops.op rfl (OpOk.box b (evO_ok hy) hc hb (Vm.blt hd)) h
theorem O.alloc {t : TypeId} {i : TI} {cs : List AV} (hE : E.Ok) (b : Nat) (ht : E.T t = some i) (hc : pvsO i.zero = some cs) (hb : look bx b = none) (hd : Nat.blt d n = true) (h : Ops E.P E.g ops l ⟨n, (d, .ptr b 0) :: tm, (b, .var cs) :: bx⟩ Θ) :
    Ops E.P E.g ops (⟨some d, .alloc t, ty, pos, after, none⟩ :: l) ⟨n, tm, bx⟩ Θ := by
  refine Ops.op rfl (OpOk.alloc b (hE.t _ _ ht) hb (Vm.blt hd)) ?_
  rw [pvsO_ok _ _ hc] at h
  exact h
theorem O.load {t : TypeId} {y : Operand} {i : TI} {z x : AV} {cs : List AV} (hE : E.Ok) (ht : E.T t = some i) (hy : evO E tm y = some z) (hc : cellsO bx z = some cs) (hx : loadO i cs = some x) (hd : Nat.blt d n = true) (h : Ops E.P E.g ops l ⟨n, (d, x) :: tm, bx⟩ Θ) :
    Ops E.P E.g ops (⟨some d, .load t y, ty, pos, after, none⟩ :: l) ⟨n, tm, bx⟩ Θ :=
  Ops.op rfl (OpOk.load (hE.t _ _ ht) (evO_ok hy) (cellsO_ok hc) (loadO_ok hx) (dlt hd)) h
theorem O.store {t : TypeId} {y x : Operand} {i : TI} {b o : Nat} {z : AV} {cs ys cs' : List AV} (hE : E.Ok) (ht : E.T t = some i) (hy : evO E tm y = some (.ptr b o)) (hx : evO E tm x = some z) (hz : z.cells? = some ys) (hb : look bx b = some (.var cs)) (hn : Nat.beq ys.length i.size = true) (hcs : setO cs o ys = some cs')
    (h : Ops E.P E.g ops l ⟨n, tm, (b, .var cs') :: bx⟩ Θ) : Ops E.P E.g ops (⟨none, .store t y x, ty, pos, after, none⟩ :: l) ⟨n, tm, bx⟩ Θ := by
  obtain ⟨e1, e2⟩ := setO_ok hcs
  exact Ops.op rfl (OpOk.store (hE.t _ _ ht) (evO_ok hy) (evO_ok hx) hz hb (Nat.eq_of_beq_eq_true hn) (Nat.ble_eq_true_of_le e2) e1) h
def offO (k : Nat) : AV → Option AV
  | .ptr b o => some (.ptr b (o + k))
  | .eptr cs => match dropO k cs with
    | some l => some (.eptr l)
    | none => none
  | _ => none
theorem offO_ok {k : Nat} {z x : AV} (h : offO k z = some x) : z.off k = some x := by
  cases z with
  | ptr b o => exact h
  | eptr cs =>
    simp only [offO] at h
    split at h
    · rename_i q hq
      obtain rfl := Option.some.inj h
      rw [(dropO_ok _ _ _ hq).1]; rfl
    · cases h
  | _ => cases h
theorem O.field {t : TypeId} {y : Operand} {f : Nat} {ls : List (Nat × Nat)} {k m : Nat} {z x : AV} (hE : E.Ok) (hl : E.L t = some ls) (hf : ls[f]? = some (k, m + 1)) (hy : evO E tm y = some z) (hx : offO k z = some x) (hd : Nat.blt d n = true) (h : Ops E.P E.g ops l ⟨n, (d, x) :: tm, bx⟩ Θ) :
    Ops E.P E.g ops (⟨some d, .fieldAddr t y f, ty, pos, after, none⟩ :: l) ⟨n, tm, bx⟩ Θ :=
  Ops.op rfl (OpOk.fieldAddr (hE.l _ _ hl) hf (evO_ok hy) (offO_ok hx) (dlt hd)) h
def lstO (bx : List (Nat × Box)) : AV → Option (Nat × List PV)
  | .pv (.lst sz xs) => some (sz, xs)
  | .gl b _ => match look bx b with
    | some (.lst _ sz xs) => some (sz, xs)
    | _ => none
  | .pv .nil => some (0, [])
  | _ => none
/-- A slice's handle is the newest one: it has all. -/
def newest (bx : List (Nat × Box)) : AV → Prop
  | .gl b m => ∀ e sz xs, look bx b = some (.lst e sz xs) → m = xs.length
  | _ => True
theorem lstO_ok {z : AV} {q : Nat × List PV} (h : lstO bx z = some q) (hn : newest bx z) : St.lstOf ⟨n, tm, bx⟩ z = some q := by
  cases z with
  | pv p => cases p <;> simp only [lstO] at h <;> first | exact h | cases h
  | gl b m =>
    simp only [lstO] at h
    split at h
    · rename_i e sz xs hb
      have := hn e sz xs hb
      obtain rfl := Option.some.inj h
      simp only [St.lstOf, hb, this, List.take_length]
    · cases h
  | _ => cases h
theorem newest_pv {p : PV} : newest bx (.pv p) := trivial
theorem newest_gl {b m e sz : Nat} {xs : List PV} (h : look bx b = some (.lst e sz xs)) (hm : m = xs.length) : newest bx (.gl b m) := fun e' sz' xs' h' => by rw [h] at h'; injection h' with h'; injection h' with _ _ h'; rw [← h']; exact hm
theorem O.lenLst {t e : TypeId} {y : Operand} {i : TI} {z : AV} {q : Nat × List PV} (hE : E.Ok) (ht : E.T t = some i) (hk : i.desc = .slc e) (hy : evO E tm y = some z) (hl : lstO bx z = some q) (hn : newest bx z) (hd : Nat.blt d n = true) (h : Ops E.P E.g ops l ⟨n, (d, .pv (.int .i64 q.2.length)) :: tm, bx⟩ Θ) :
    Ops E.P E.g ops (⟨some d, .call { callee := .builtin .len, args := #[y], argTypes := #[t] }, ty, pos, after, none⟩ :: l) ⟨n, tm, bx⟩ Θ :=
  Ops.op rfl (OpOk.lenLst (hE.t _ _ ht) hk (evO_ok hy) (lstO_ok hl hn) rfl (dlt hd)) h
theorem O.lenStr {t : TypeId} {y : Operand} {i : TI} {b : ByteArray} (hE : E.Ok) (ht : E.T t = some i) (hk : i.desc = .strg) (hy : evO E tm y = some (.pv (.str b))) (hd : Nat.blt d n = true) (h : Ops E.P E.g ops l ⟨n, (d, .pv (.int .i64 b.size)) :: tm, bx⟩ Θ) :
    Ops E.P E.g ops (⟨some d, .call { callee := .builtin .len, args := #[y], argTypes := #[t] }, ty, pos, after, none⟩ :: l) ⟨n, tm, bx⟩ Θ :=
  Ops.op rfl (OpOk.lenStr (hE.t _ _ ht) hk (evO_ok hy) rfl (dlt hd)) h
theorem O.index {t e : TypeId} {y ix : Operand} {i ie : TI} {z : AV} {q : Nat × List PV} {k : IntKind} {m : Int} {el : PV} {cs : List PV} (hE : E.Ok) (ht : E.T t = some i) (hk : i.desc = .slc e) (he : E.T e = some ie) (hy : evO E tm y = some z) (hl : lstO bx z = some q) (hn : newest bx z) (hix : evO E tm ix = some (.pv (.int k m)))
    (h0 : 0 ≤ m) (hel : q.2[m.toNat]? = some el) (hsz : q.1 = ie.size) (hcs : el.cells = cs) (hd : Nat.blt d n = true) (h : Ops E.P E.g ops l ⟨n, (d, .eptr cs) :: tm, bx⟩ Θ) :
    Ops E.P E.g ops (⟨some d, .indexAddr t y ix, ty, pos, after, none⟩ :: l) ⟨n, tm, bx⟩ Θ :=
  Ops.op rfl (OpOk.indexLst (hE.t _ _ ht) hk (hE.t _ _ he) (evO_ok hy) (lstO_ok hl hn) (evO_ok hix) h0 hel hsz hcs (dlt hd)) h
theorem O.indexA {t e : TypeId} {y ix : Operand} {i ie : TI} {z x : AV} {len : Nat} {k : IntKind} {m : Int} {o : Nat} (hE : E.Ok) (ht : E.T t = some i) (hk : i.desc = .arr len e) (he : E.T e = some ie) (hy : evO E tm y = some z) (hix : evO E tm ix = some (.pv (.int k m))) (h0 : 0 ≤ m) (hm : m < len) (ho : m.toNat * ie.size = o) (hx : z.off o = some x)
    (hd : Nat.blt d n = true) (h : Ops E.P E.g ops l ⟨n, (d, x) :: tm, bx⟩ Θ) : Ops E.P E.g ops (⟨some d, .indexAddr t y ix, ty, pos, after, none⟩ :: l) ⟨n, tm, bx⟩ Θ :=
  Ops.op rfl (OpOk.indexArr (hE.t _ _ ht) hk (hE.t _ _ he) (evO_ok hy) (evO_ok hix) h0 hm ho hx (dlt hd)) h
theorem O.indexS {t : TypeId} {y ix : Operand} {i : TI} {b : ByteArray} {k : IntKind} {m : Int} {c : UInt8} (hE : E.Ok) (ht : E.T t = some i) (hk : i.desc = .strg) (hy : evO E tm y = some (.pv (.str b))) (hix : evO E tm ix = some (.pv (.int k m))) (h0 : 0 ≤ m) (hc : b[m.toNat]? = some c) (hd : Nat.blt d n = true)
    (h : Ops E.P E.g ops l ⟨n, (d, .pv (.int .u8 c.toNat)) :: tm, bx⟩ Θ) : Ops E.P E.g ops (⟨some d, .index t y ix, ty, pos, after, none⟩ :: l) ⟨n, tm, bx⟩ Θ :=
  Ops.op rfl (OpOk.indexStr (hE.t _ _ ht) hk (evO_ok hy) (evO_ok hix) h0 hc (dlt hd)) h
theorem O.extract {y : Operand} {j : Nat} {xs : List AV} {x : AV} (hy : evO E tm y = some (.tup xs)) (hx : xs[j]? = some x) (hd : Nat.blt d n = true) (h : Ops E.P E.g ops l ⟨n, (d, x) :: tm, bx⟩ Θ) :
    Ops E.P E.g ops (⟨some d, .extract y j, ty, pos, after, none⟩ :: l) ⟨n, tm, bx⟩ Θ :=
  Ops.op rfl (OpOk.extract (evO_ok hy) hx (dlt hd)) h
def bndO (E : Env) (tm : List (Nat × AV)) (dd : Int) : Option Operand → Option Int
  | none => some dd
  | some x => match evO E tm x with
    | some (.pv (.int _ m)) => some m
    | _ => none
theorem bndO_ok {dd m : Int} {x : Option Operand} (h : bndO E tm dd x = some m) : bnd ⟨n, tm, bx⟩ E.g dd x = some m := by
  cases x with
  | none => exact h
  | some x =>
    simp only [bndO] at h
    split at h
    · rename_i k m' hx
      simp only [bnd, evO_ok hx]; exact h
    · cases h
theorem O.slice {t e : TypeId} {y : Operand} {lo hi : Option Operand} {i ie : TI} {z : AV} {q : Nat × List PV} {ys : List PV} {a b : Int} (hE : E.Ok) (ht : E.T t = some i) (hk : i.desc = .slc e) (he : E.T e = some ie) (hy : evO E tm y = some z) (hl : lstO bx z = some q) (hn : newest bx z) (hsz : q.1 = ie.size) (hlo : bndO E tm 0 lo = some a) (hhi : bndO E tm q.2.length hi = some b)
    (h0 : 0 ≤ a) (h1 : a ≤ b) (h2 : b ≤ q.2.length) (hys : (q.2.take b.toNat).drop a.toNat = ys) (hd : Nat.blt d n = true) (h : Ops E.P E.g ops l ⟨n, (d, .pv (.lst q.1 ys)) :: tm, bx⟩ Θ) : Ops E.P E.g ops (⟨some d, .slice t y lo hi none, ty, pos, after, none⟩ :: l) ⟨n, tm, bx⟩ Θ :=
  Ops.op rfl (OpOk.sliceLst (hE.t _ _ ht) hk (hE.t _ _ he) (evO_ok hy) (lstO_ok hl hn) hsz (bndO_ok hlo) (bndO_ok hhi) h0 h1 h2 hys (dlt hd)) h
theorem O.sliceS {t : TypeId} {y : Operand} {lo hi : Option Operand} {i : TI} {s s' : ByteArray} {a b : Int} (hE : E.Ok) (ht : E.T t = some i) (hk : i.desc = .strg) (hy : evO E tm y = some (.pv (.str s))) (hlo : bndO E tm 0 lo = some a) (hhi : bndO E tm s.size hi = some b)
    (h0 : 0 ≤ a) (h1 : a ≤ b) (h2 : b ≤ s.size) (hys : s.extract a.toNat b.toNat = s') (hd : Nat.blt d n = true) (h : Ops E.P E.g ops l ⟨n, (d, .pv (.str s')) :: tm, bx⟩ Θ) : Ops E.P E.g ops (⟨some d, .slice t y lo hi none, ty, pos, after, none⟩ :: l) ⟨n, tm, bx⟩ Θ :=
  Ops.op rfl (OpOk.sliceStr (hE.t _ _ ht) hk (evO_ok hy) (bndO_ok hlo) (bndO_ok hhi) h0 h1 h2 hys (dlt hd)) h
def fillO (E : Env) (place : Nat → Option (Nat × Nat)) (tm : List (Nat × AV)) (cells : List AV) : List (Nat × Operand) → Option (List AV)
  | [] => some cells
  | (i, x) :: rest => match place i, (evO E tm x).bind AV.cells? with
    | some (off, size), some ys => match Nat.beq ys.length size, setO cells off ys with
      | true, some c => fillO E place tm c rest
      | _, _ => none
    | _, _ => none
theorem fillO_ok {place : Nat → Option (Nat × Nat)} : ∀ (ps : List (Nat × Operand)) (cells r : List AV), fillO E place tm cells ps = some r → fillAV place ⟨n, tm, bx⟩ E.g cells ps = some r
  | [], cells, r, h => h
  | (i, x) :: rest, cells, r, h => by
    simp only [fillO] at h
    split at h
    · rename_i off size ys h1 h2
      split at h
      · rename_i c h3 h4
        rw [Option.bind_eq_some_iff] at h2
        obtain ⟨y, hy, h2⟩ := h2
        obtain ⟨e1, e2⟩ := setO_ok h4
        have hev : St.ev ⟨n, tm, bx⟩ E.g x = y := evO_ok hy
        simp only [fillAV, h1, hev, h2, h3, Nat.ble_eq_true_of_le e2, Bool.and_self, cond_true, e1]
        exact fillO_ok rest c r h
      · cases h
    · cases h
theorem O.build {t : TypeId} {parts : Array (Nat × Operand)} {i : TI} {ls : List (Nat × Nat)} {zs cs : List AV} (hE : E.Ok) (ht : E.T t = some i) (hl : E.L t = some ls) (hz : pvsO i.zero = some zs) (hf : fillO E (fun j => ls[j]?) tm zs parts.toList = some cs) (hd : Nat.blt d n = true)
    (h : Ops E.P E.g ops l ⟨n, (d, .agg cs) :: tm, bx⟩ Θ) : Ops E.P E.g ops (⟨some d, .build t parts, ty, pos, after, none⟩ :: l) ⟨n, tm, bx⟩ Θ :=
  Ops.op rfl (OpOk.build (hE.t _ _ ht) (hE.l _ _ hl) (by rw [← pvsO_ok _ _ hz]; exact fillO_ok _ _ _ hf) (dlt hd)) h
/-- The element that a value becomes. -/
def pub1O (bx : List (Nat × Box)) : AV → Option PV
  | .pv p => match p.one with
    | true => some p
    | false => none
  | .gl b m => match look bx b with
    | some (.lst _ sz xs) => some (.lst sz (xs.take m))
    | _ => none
  | _ => none
def pubsO (bx : List (Nat × Box)) : List AV → Option (List PV)
  | [] => some []
  | x :: xs => match pub1O bx x, pubsO bx xs with
    | some p, some ps => some (p :: ps)
    | _, _ => none
def pubO (bx : List (Nat × Box)) : AV → Option PV
  | .agg cs => match pubsO bx cs with
    | some ps => some (.agg ps)
    | none => none
  | .pv p => some p
  | .gl b m => match look bx b with
    | some (.lst _ sz xs) => some (.lst sz (xs.take m))
    | _ => none
  | _ => none
theorem pub1O_ok {x : AV} {p : PV} (h : pub1O bx x = some p) : St.pub1? ⟨n, tm, bx⟩ x = some p := by
  cases x with
  | pv q =>
    simp only [pub1O] at h
    split at h
    · rename_i hq; simp only [St.pub1?, hq, cond_true]; exact h
    · cases h
  | gl b m =>
    simp only [pub1O] at h
    split at h
    · rename_i e sz xs hb; simp only [St.pub1?, St.lstOf, hb, Option.map_some]; exact h
    · cases h
  | _ => cases h
theorem pubsO_ok : ∀ {xs : List AV} {ps : List PV}, pubsO bx xs = some ps → pubs? ⟨n, tm, bx⟩ xs = some ps
  | [], ps, h => h
  | x :: xs, ps, h => by
    simp only [pubsO] at h
    split at h
    · rename_i p ps' h1 h2
      simp only [pubs?, pub1O_ok h1, pubsO_ok h2]; exact h
    · cases h
theorem pubO_ok {x : AV} {p : PV} (h : pubO bx x = some p) : St.pub? ⟨n, tm, bx⟩ x = some p := by
  cases x with
  | pv q => exact h
  | agg cs =>
    simp only [pubO] at h
    split at h
    · rename_i ps hps; simp only [St.pub?, pubsO_ok hps, Option.map_some]; exact h
    · cases h
  | gl b m =>
    simp only [pubO] at h
    split at h
    · rename_i e sz xs hb; simp only [St.pub?, St.lstOf, hb, Option.map_some]; exact h
    · cases h
  | _ => cases h
def elemsO (E : Env) (bx : List (Nat × Box)) (tm : List (Nat × AV)) (sz : Nat) : Nat → List (Nat × Operand) → Option (List PV)
  | _, [] => some []
  | k, (i, x) :: rest => match (evO E tm x).bind (pubO bx), elemsO E bx tm sz (k + 1) rest with
    | some p, some ps => match Nat.beq i k && Nat.beq p.cells.length sz && p.cells.all PV.one with
      | true => some (p :: ps)
      | false => none
    | _, _ => none
theorem elemsO_ok {sz : Nat} : ∀ (ps : List (Nat × Operand)) (k : Nat) (r : List PV), elemsO E bx tm sz k ps = some r → elems ⟨n, tm, bx⟩ E.g sz k ps = some r
  | [], k, r, h => h
  | (i, x) :: rest, k, r, h => by
    simp only [elemsO] at h
    split at h
    · rename_i p ps' h1 h2
      split at h
      · rename_i hb
        rw [Option.bind_eq_some_iff] at h1
        obtain ⟨y, hy, h1⟩ := h1
        have hev : St.ev ⟨n, tm, bx⟩ E.g x = y := evO_ok hy
        simp only [elems, hev, pubO_ok h1, elemsO_ok rest _ _ h2, hb, cond_true]; exact h
      · cases h
    · cases h
theorem O.lit {t e : TypeId} {len : Nat} {parts : Array (Nat × Operand)} {i ie : TI} {xs : List PV} (hE : E.Ok) (b : Nat) (ht : E.T t = some i) (hk : i.desc = .slc e) (he : E.T e = some ie) (hz : Nat.beq ie.zero.length ie.size = true) (hpos : Nat.blt 0 ie.size = true) (hel : elemsO E bx tm ie.size 0 parts.toList = some xs) (hlen : Nat.beq len parts.toList.length = true) (hlen2 : Nat.beq len xs.length = true)
    (hbig : Nat.ble (len * ie.size) 16777216 = true) (hb : look bx b = none) (hd : Nat.blt d n = true) (h : Ops E.P E.g ops l ⟨n, (d, .gl b xs.length) :: tm, (b, .lst e ie.size xs) :: bx⟩ Θ) : Ops E.P E.g ops (⟨some d, .buildSlice t len parts, ty, pos, after, none⟩ :: l) ⟨n, tm, bx⟩ Θ :=
  Ops.op rfl (OpOk.buildSlice b (hE.t _ _ ht) hk (hE.t _ _ he) hz hpos (elemsO_ok _ _ _ hel) hlen hlen2 hbig hb (Vm.blt hd)) h
theorem O.append {t e : TypeId} {y x : Operand} {i ie : TI} {b m sz : Nat} {xs zs : List PV} {z : AV} {q : Nat × List PV} (hE : E.Ok) (ht : E.T t = some i) (hk : i.desc = .slc e) (he : E.T e = some ie) (hy : evO E tm y = some (.gl b m)) (hb : look bx b = some (.lst e sz xs)) (hm : m = xs.length) (hx : evO E tm x = some z) (hl : lstO bx z = some q) (hn : newest bx z) (hsz : q.1 = sz) (hsz2 : sz = ie.size)
    (hz : Nat.beq ie.zero.length ie.size = true) (hpos : Nat.blt 0 ie.size = true) (hb1 : (xs.length + q.2.length) * ie.bytes ≤ 140737488355328) (hb2 : xs.length + q.2.length ≤ maxLen) (hzs : xs ++ q.2 = zs) (hd : Nat.blt d n = true) (h : Ops E.P E.g ops l ⟨n, (d, .gl b zs.length) :: tm, (b, .lst e sz zs) :: bx⟩ Θ) :
    Ops E.P E.g ops (⟨some d, .call { callee := .builtin .append, args := #[y, x], argTypes := #[t, t] }, ty, pos, after, none⟩ :: l) ⟨n, tm, bx⟩ Θ := by
  subst hsz
  exact Ops.op rfl (OpOk.append (hE.t _ _ ht) hk (hE.t _ _ he) (evO_ok hy) hb hm (evO_ok hx) (lstO_ok hl hn) hsz2 (Nat.eq_of_beq_eq_true hz) (Nat.le_of_ble_eq_true hpos) hb1 hb2 hzs (Vm.blt hd)) h
theorem O.bytes {sr t e : TypeId} {y : Operand} {i ie is : TI} {b : ByteArray} (hE : E.Ok) (hs0 : E.T sr = some is) (ht : E.T t = some i) (hk : i.desc = .slc e) (he : E.T e = some ie) (hek : ie.desc = .int .u8) (hy : evO E tm y = some (.pv (.str b))) (hm : b.size ≤ maxLen) (hd : Nat.blt d n = true) (h : Ops E.P E.g ops l ⟨n, (d, .pv (.lst 1 (byts b))) :: tm, bx⟩ Θ) :
    Ops E.P E.g ops (⟨some d, .convert sr t y, ty, pos, after, none⟩ :: l) ⟨n, tm, bx⟩ Θ :=
  Ops.op rfl (OpOk.bytesOf (hE.t _ _ hs0) (hE.t _ _ ht) hk (hE.t _ _ he) hek (evO_ok hy) hm (Vm.blt hd)) h
theorem O.str {sr t e : TypeId} {y : Operand} {i ie it : TI} {z : AV} {q : Nat × List PV} {ns : List Int} {b : ByteArray} (hE : E.Ok) (ht : E.T sr = some i) (hk : i.desc = .slc e) (he : E.T e = some ie) (hek : ie.desc = .int .u8) (htt : E.T t = some it) (htk : it.desc = .strg) (hy : evO E tm y = some z) (hl : lstO bx z = some q) (hn : newest bx z) (hns : nums q.2 = some ns) (hb : strOfNums ns = b)
    (hd : Nat.blt d n = true) (h : Ops E.P E.g ops l ⟨n, (d, .pv (.str b)) :: tm, bx⟩ Θ) : Ops E.P E.g ops (⟨some d, .convert sr t y, ty, pos, after, none⟩ :: l) ⟨n, tm, bx⟩ Θ :=
  Ops.op rfl (OpOk.strOf (hE.t _ _ ht) hk (hE.t _ _ he) hek (hE.t _ _ htt) htk (evO_ok hy) (lstO_ok hl hn) hns hb (dlt hd)) h

/-- A function that may be called, and its contract. -/
structure FnC (E : Env) (f : FuncId) (args : List AV) (r : AV) (bs : List (Nat × Box)) : Prop where
  ok : FnOk E.P E.g f args r bs
  fn : ∃ fn, E.P.funcs[f]? = some fn ∧ (fn.name == "runtime.NumGoroutine") = false ∧ fn.body.isSome = true
theorem O.call {f : FuncId} {xs : Array Operand} {ts : Array TypeId} {args : List AV} {r r' : AV} {bs bs' bs2 : List (Nat × Box)} (k : Nat) (hc : FnC E f args r bs) (hargs : AVles ⟨n, tm, bx⟩ (xs.toList.map (St.ev ⟨n, tm, bx⟩ E.g)) args) (hcl : closed args = true) (hk : freeB k bx bs = true) (hdr : d2 r = true) (hdb : dBs bs = true) (hd : Nat.blt d n = true)
    (hr : sh3 k r = r') (hbs : shBs k bs ++ bx = bs2) (h : Ops E.P E.g ops l ⟨n, (d, r') :: tm, bs2⟩ Θ) : Ops E.P E.g ops (⟨some d, .call { callee := .value (.func f), args := xs, argTypes := ts }, ty, pos, after, none⟩ :: l) ⟨n, tm, bx⟩ Θ := by
  obtain ⟨fn, h1, h2, h3⟩ := hc.fn
  subst hr
  subst hbs
  exact Ops.op rfl (OpOk.call k hc.ok h1 h2 h3 hargs hcl hk hdr hdb (Vm.blt hd)) h
theorem O.nil (h : Θ ⟨n, tm, bx⟩) : Ops E.P E.g ops [] ⟨n, tm, bx⟩ Θ := Ops.nil h
end
end Go.Proofs.YtcbdhdblchmofaaDoor.Vm
