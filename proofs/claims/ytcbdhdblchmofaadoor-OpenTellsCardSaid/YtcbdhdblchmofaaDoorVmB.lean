/- The value machine, second part: the operations that make no memory: scalars, moves, loads, stores, fields, elements. Conditions: none. -/
import Derived.Test.YtcbdhdblchmofaaDoorVmA
import Derived.Laws.Sem
import Derived.Laws.Cells
namespace Go.Proofs.YtcbdhdblchmofaaDoor.Vm
open Go Go.RowKit
set_option linter.unusedVariables false
set_option linter.unusedSimpArgs false

/-- A model's computation that asks nothing but the program. -/
def now {α : Type} (P : Program) : Sem α → Option α
  | .pure a => some a
  | .program k => now P (k P)
  | _ => none
theorem now_run {α : Type} {P : Program} {a : α} : ∀ (m : Sem α) (w : World), now P m = some a → m.run P w = .ok a w
  | .pure b, w, h => by simp only [now] at h; obtain rfl := Option.some.inj h; rfl
  | .program k, w, h => by simp only [now] at h; simp only [Sem.run]; exact now_run (k P) w h
  | .load .., _, h | .store .., _, h | .new .., _, h | .shape .., _, h | .freeze .., _, h | .frozen .., _, h | .getObj .., _, h | .setObj .., _, h | .choose .., _, h | .sys .., _, h | .mark .., _, h | .halt .., _, h => by simp [now] at h

def PV.ofVal : Value → Option PV
  | .int k n => some (.int k n)
  | .bool b => some (.bool b)
  | .string s => some (.str s)
  | .float k n => some (.flt k n)
  | .slice none 0 0 => some .nil
  | .nilIface => some .nilI
  | .nilFunc => some .nilF
  | _ => none
/-- The scalar that a value is. -/
def PV.val? : PV → Option Value
  | .int k n => some (.int k n)
  | .bool b => some (.bool b)
  | .str s => some (.string s)
  | .flt k n => some (.float k n)
  | .nil => some (.slice none 0 0)
  | .nilI => some .nilIface
  | .nilF => some .nilFunc
  | .fn f => some (.func (.func f) #[] #[])
  | _ => none
theorem RP.of_val {dat : Nat → Nat → Option Value} {p : PV} {v u : Value} (h : RP dat p v) (hu : p.val? = some u) : v = u := by
  cases h <;> simp only [PV.val?] at hu <;> first | (exact Option.some.inj hu) | cases hu
theorem RP.ofVal {dat : Nat → Nat → Option Value} {p : PV} {v : Value} (h : PV.ofVal v = some p) : RP dat p v := by
  unfold PV.ofVal at h
  split at h <;> first | (obtain rfl := Option.some.inj h; constructor) | cases h
theorem PV.ofVal_one {p : PV} {v : Value} (h : PV.ofVal v = some p) : p.one = true := by
  unfold PV.ofVal at h
  split at h <;> first | (obtain rfl := Option.some.inj h; rfl) | cases h

def AV.val? : AV → Option Value
  | .pv p => p.val?
  | _ => none
def vals? : List AV → Option (List Value)
  | [] => some []
  | x :: xs => match x.val?, vals? xs with
    | some v, some vs => some (v :: vs)
    | _, _ => none
/-- A flat value: a scalar, or an aggregate of scalars. -/
def AV.flat? : AV → Option Value
  | .pv p => p.val?
  | .agg cs => (vals? cs).map fun vs => .agg vs.toArray
  | .tup cs => (vals? cs).map fun vs => .tuple vs.toArray
  | _ => none
theorem RA.of_val {G : Gh} {x : AV} {v u : Value} (h : RA G x v) (hu : x.val? = some u) : v = u := by
  cases x <;> simp only [AV.val?] at hu <;> first | cases hu | skip
  cases h with
  | pv _ _ h => exact h.of_val hu
theorem vals_of {G : Gh} : ∀ (cs : List AV) (us vs : List Value), vals? cs = some us → vs.length = cs.length → (∀ (i : Nat) x v, cs[i]? = some x → vs[i]? = some v → RA G x v) → vs = us
  | [], us, vs, h, hl, _ => by
    simp only [vals?] at h
    obtain rfl := Option.some.inj h
    exact List.eq_nil_of_length_eq_zero hl
  | x :: cs, us, vs, h, hl, hr => by
    cases vs with
    | nil => simp at hl
    | cons v vs =>
      simp only [vals?] at h
      split at h
      · rename_i u us' h1 h2
        obtain rfl := Option.some.inj h
        have e1 := (hr 0 x v rfl rfl).of_val h1
        have e2 := vals_of cs us' vs h2 (by simpa using hl) (fun i y u' hy hu => hr (i + 1) y u' (by simpa using hy) (by simpa using hu))
        rw [e1, e2]
      · cases h
theorem RA.of_flat {G : Gh} {x : AV} {v u : Value} (h : RA G x v) (hu : x.flat? = some u) : v = u := by
  cases h with
  | pv p v h => exact h.of_val hu
  | agg cs vs hl h =>
    simp only [AV.flat?, Option.map_eq_some_iff] at hu
    obtain ⟨us, h1, rfl⟩ := hu
    have := vals_of cs us vs.toList h1 (by simpa using hl) (fun i x v hx hv => h i x v hx (by simpa using hv))
    rw [← this]
  | tup cs vs hl h =>
    simp only [AV.flat?, Option.map_eq_some_iff] at hu
    obtain ⟨us, h1, rfl⟩ := hu
    have := vals_of cs us vs.toList h1 (by simpa using hl) (fun i x v hx hv => h i x v hx (by simpa using hv))
    rw [← this]
  | _ => simp [AV.flat?] at hu

def pvs? : List Value → Option (List AV)
  | [] => some []
  | v :: vs => match PV.ofVal v, pvs? vs with
    | some p, some ps => some (.pv p :: ps)
    | _, _ => none
def AV.ofVal : Value → Option AV
  | .agg vs => (pvs? vs.toList).map .agg
  | v => (PV.ofVal v).map .pv
theorem pvs_ok {G : Gh} : ∀ (vs : List Value) (cs : List AV), pvs? vs = some cs → vs.length = cs.length ∧ (∀ (i : Nat) x v, cs[i]? = some x → vs[i]? = some v → RA G x v)
  | [], cs, h => by
    simp only [pvs?] at h
    obtain rfl := Option.some.inj h
    exact ⟨rfl, fun i x v hx => by simp at hx⟩
  | v :: vs, cs, h => by
    simp only [pvs?] at h
    split at h
    · rename_i p ps h1 h2
      obtain rfl := Option.some.inj h
      obtain ⟨e1, e2⟩ := pvs_ok (G := G) vs ps h2
      refine ⟨by simp [e1], fun i x u hx hu => ?_⟩
      cases i with
      | zero => simp at hx hu; subst hx; subst hu; exact .pv _ _ (RP.ofVal h1)
      | succ i => exact e2 i x u (by simpa using hx) (by simpa using hu)
    · cases h
theorem RA.ofVal {G : Gh} {x : AV} {v : Value} (h : AV.ofVal v = some x) : RA G x v := by
  cases v with
  | agg vs =>
    simp only [AV.ofVal, Option.map_eq_some_iff] at h
    obtain ⟨cs, h1, rfl⟩ := h
    obtain ⟨e1, e2⟩ := pvs_ok (G := G) _ _ h1
    exact .agg cs vs (by simpa using e1) (fun i x v hx hv => e2 i x v hx (by simpa using hv))
  | _ =>
    simp only [AV.ofVal, Option.map_eq_some_iff] at h
    obtain ⟨p, h1, rfl⟩ := h
    exact .pv _ _ (RP.ofVal h1)

/-- The value of an operand. -/
def St.ev (s : St) (g : Nat → Option (List PV)) : Operand → AV
  | .tmp t => s.get t
  | .const v => (AV.ofVal v).getD .any
  | .global k => match g k with | some cs => .eptr cs | none => .any
  | .func f => .clo f []

section
variable {P : Program} {g : Nat → Option (List PV)} {s s1 s' : St} {cx : Cx} {a : Act} {w : World} {G : Gh}
theorem SR.ev (h : SR cx s a w G) (hg : cx.g = g) (x : Operand) : RA G (s.ev g x) (a.eval x) := by
  cases x with
  | tmp t => exact h.tm t
  | const v =>
    simp only [St.ev, Act.eval]
    cases hv : AV.ofVal v with
    | none => exact .any _
    | some y => exact RA.ofVal hv
  | global k =>
    simp only [St.ev, Act.eval]
    cases hk : g k with
    | none => exact .any _
    | some cs => exact h.glo k cs (by rw [hg]; exact hk)
  | func f => exact .clo f [] #[] rfl (fun i x v hx => by simp at hx)

/-- An operation that gives a value and leaves the world. -/
theorem OpOk.val {o : Oper} {x : AV} (hd : ∀ t, o.dst = some t → t < s.n)
    (h : ∀ (cx : Cx) (a : Act) (w : World) (G : Gh), cx.P = P → cx.g = g → SR cx s a w G → ∃ v, (execOp a.eval o).run P w = .ok (.value v) w ∧ RA G x v) : OpOk P g o s (s.putO o.dst x) := by
  intro cx a w G hP hg hs K Q hK
  obtain ⟨v, h1, h2⟩ := h cx a w G hP hg hs
  unfold Oper.wp
  rw [h1]
  exact hK _ _ G (hs.putO hd h2)

def St.fl (s : St) (g : Nat → Option (List PV)) (x : Operand) : Value := ((s.ev g x).flat?).getD undef
def flats (s : St) (g : Nat → Option (List PV)) : List Operand → Bool
  | [] => true
  | x :: xs => (s.ev g x).flat?.isSome && flats s g xs
theorem flats_mem : ∀ (l : List Operand), flats s g l = true → ∀ x ∈ l, ∃ u, (s.ev g x).flat? = some u
  | [], _, x, hx => by simp at hx
  | y :: l, h, x, hx => by
    simp only [flats, Bool.and_eq_true] at h
    cases hx with
    | head => exact Option.isSome_iff_exists.1 h.1
    | tail _ hx => exact flats_mem l h.2 x hx
/-- An operation on flat values that asks nothing of memory. -/
theorem OpOk.now {dst : Option Tmp} {op : Op} {ty : TypeId} {pos : String} {after : Array Edge} {gd : Option (Nat × Bool)} {v : Value} {x : AV} (hsel : ∀ cs b, op ≠ .select cs b) (hl : flats s g op.operands.toList = true)
    (hn : Vm.now P (execOp (s.fl g) ⟨dst, op, ty, pos, after, gd⟩) = some (.value v)) (hx : AV.ofVal v = some x) (hd : ∀ t, dst = some t → t < s.n) :
    OpOk P g ⟨dst, op, ty, pos, after, gd⟩ s (s.putO dst x) := by
  refine OpOk.val (o := ⟨dst, op, ty, pos, after, gd⟩) hd (fun cx a w G hP hg hs => ⟨v, ?_, RA.ofVal hx⟩)
  have he : execOp a.eval ⟨dst, op, ty, pos, after, gd⟩ = execOp (s.fl g) ⟨dst, op, ty, pos, after, gd⟩ := execOp_congr _ hsel (fun y hy => by
    obtain ⟨u, hu⟩ := flats_mem op.operands.toList hl y (by simpa using hy)
    rw [(hs.ev hg y).of_flat hu]
    simp [St.fl, hu])
  rw [he]
  exact now_run _ w hn

theorem OpOk.move {dst : Option Tmp} {y : Operand} {ty : TypeId} {pos : String} {after : Array Edge} {gd : Option (Nat × Bool)} {x : AV} (hx : s.ev g y = x) (hd : ∀ t, dst = some t → t < s.n) :
    OpOk P g ⟨dst, .move y, ty, pos, after, gd⟩ s (s.putO dst x) :=
  OpOk.val (o := ⟨dst, .move y, ty, pos, after, gd⟩) hd fun cx a w G hP hg hs => ⟨a.eval y, rfl, hx ▸ hs.ev hg y⟩
theorem OpOk.assign {dst : Option Tmp} {y : Operand} {ty : TypeId} {pos : String} {after : Array Edge} {gd : Option (Nat × Bool)} {x : AV} (hx : s.ev g y = x) (hd : ∀ t, dst = some t → t < s.n) :
    OpOk P g ⟨dst, .assign y, ty, pos, after, gd⟩ s (s.putO dst x) :=
  OpOk.val (o := ⟨dst, .assign y, ty, pos, after, gd⟩) hd fun cx a w G hP hg hs => ⟨a.eval y, rfl, hx ▸ hs.ev hg y⟩
theorem RA.bool {b : Bool} {v : Value} (h : RA G (.pv (.bool b)) v) : v = .bool b := h.of_val rfl
theorem RA.int {k : IntKind} {n : Int} {v : Value} (h : RA G (.pv (.int k n)) v) : v = .int k n := h.of_val rfl
theorem RA.str {b : ByteArray} {v : Value} (h : RA G (.pv (.str b)) v) : v = .string b := h.of_val rfl
theorem OpOk.pick {dst : Option Tmp} {c y z : Operand} {b : Bool} {ty : TypeId} {pos : String} {after : Array Edge} {gd : Option (Nat × Bool)} {x : AV} (hc : s.ev g c = .pv (.bool b)) (hx : (bif b then s.ev g y else s.ev g z) = x) (hd : ∀ t, dst = some t → t < s.n) :
    OpOk P g ⟨dst, .pick c y z, ty, pos, after, gd⟩ s (s.putO dst x) :=
  OpOk.val (o := ⟨dst, .pick c y z, ty, pos, after, gd⟩) hd fun cx a w G hP hg hs => by
    have h1 := hs.ev hg c
    rw [hc] at h1
    refine ⟨if b then a.eval y else a.eval z, ?_, ?_⟩
    · unfold execOp
      simp [RA.bool h1, asBool, Sem.run_bind, Result.andThen]
    · subst hx
      cases b
      · exact hs.ev hg z
      · exact hs.ev hg y
theorem Runs.condT {q : Operand} {c d : Code} {b : Bool} {x : Ex} (hq : s.ev g q = .pv (.bool b)) (hb : b = true) (h : Runs P g c s x s') : Runs P g (.cond q c d) s x s' := by
  intro cx a w G hP hg hs
  have h1 := hs.ev hg q
  rw [hq] at h1
  exact wp_cond_true (by rw [RA.bool h1, hb]) (h cx a w G hP hg hs)
theorem Runs.condF {q : Operand} {c d : Code} {b : Bool} {x : Ex} (hq : s.ev g q = .pv (.bool b)) (hb : b = false) (h : Runs P g d s x s') : Runs P g (.cond q c d) s x s' := by
  intro cx a w G hP hg hs
  have h1 := hs.ev hg q
  rw [hq] at h1
  exact wp_cond_false (by rw [RA.bool h1, hb]) (h cx a w G hP hg hs)

/-- What a type is. -/
inductive TK where
  | str
  | arr (n e : Nat)
  | slc (e : Nat)
  | int (k : IntKind)
  | bool
  | strg
  | flt
  | ptr (e : Nat)
  | oth
def kOf : TypeDesc → TK
  | .struct _ => .str
  | .array n e => .arr n e
  | .slice e => .slc e
  | .int k => .int k
  | .bool => .bool
  | .string => .strg
  | .float _ => .flt
  | .pointer e => .ptr e
  | _ => .oth
structure TI where
  desc : TK
  size : Nat
  bytes : Nat
  zero : List PV
def pvOfs : List Value → Option (List PV)
  | [] => some []
  | v :: vs => match PV.ofVal v, pvOfs vs with
    | some p, some ps => some (p :: ps)
    | _, _ => none
def tiOf (P : Program) (t : TypeId) : Option TI :=
  match P.info? t, P.underlying t with
  | some i, some d => match i.zero with
    | some z => (pvOfs z.cells.toList).map fun zs => ⟨kOf d, i.size, i.bytes, zs⟩
    | none => none
  | _, _ => none
def aggD : TK → Bool
  | .str | .arr _ _ => true
  | _ => false
theorem tiOf_ok {t : TypeId} {i : TI} (h : tiOf P t = some i) : ∃ inf z d, P.info? t = some inf ∧ P.underlying t = some d ∧ kOf d = i.desc ∧ inf.size = i.size ∧ inf.bytes = i.bytes ∧ inf.zero = some z ∧ pvOfs z.cells.toList = some i.zero := by
  unfold tiOf at h
  split at h
  · rename_i inf d h1 h2
    split at h
    · rename_i z hz
      simp only [Option.map_eq_some_iff] at h
      obtain ⟨zs, h3, rfl⟩ := h
      exact ⟨inf, z, d, h1, h2, rfl, rfl, rfl, hz, h3⟩
    · cases h
  · cases h
theorem tiOf_agg {t : TypeId} {i : TI} (h : tiOf P t = some i) (w : World) : (isAgg t).run P w = .ok (aggD i.desc) w := by
  obtain ⟨inf, z, d, h1, h2, h3, _⟩ := tiOf_ok h
  unfold isAgg
  rw [Sem.run_bind, run_underlying h2 w, ← h3]
  cases d <;> simp [aggD, kOf, Result.andThen]
theorem tiOf_size {t : TypeId} {i : TI} (h : tiOf P t = some i) (w : World) : (sizeOf t).run P w = .ok i.size w := by
  obtain ⟨inf, z, d, h1, h2, h3, h4, _⟩ := tiOf_ok h
  simp [sizeOf, typeInfo, h1, h4]
theorem tiOf_und {t : TypeId} {i : TI} (h : tiOf P t = some i) : ∃ d, P.underlying t = some d ∧ kOf d = i.desc := by
  obtain ⟨inf, z, d, h1, h2, h3, _⟩ := tiOf_ok h
  exact ⟨d, h2, h3⟩
theorem tiOf_slc {t : TypeId} {i : TI} {e : Nat} (h : tiOf P t = some i) (hk : i.desc = .slc e) : P.underlying t = some (.slice e) := by
  obtain ⟨d, h1, h2⟩ := tiOf_und h
  rw [hk] at h2
  cases d <;> simp [kOf] at h2
  rw [h1, h2]
theorem tiOf_arr {t : TypeId} {i : TI} {n e : Nat} (h : tiOf P t = some i) (hk : i.desc = .arr n e) : P.underlying t = some (.array n e) := by
  obtain ⟨d, h1, h2⟩ := tiOf_und h
  rw [hk] at h2
  cases d <;> simp [kOf] at h2
  rw [h1, h2.1, h2.2]
theorem tiOf_strg {t : TypeId} {i : TI} (h : tiOf P t = some i) (hk : i.desc = .strg) : P.underlying t = some .string := by
  obtain ⟨d, h1, h2⟩ := tiOf_und h
  rw [hk] at h2
  cases d <;> simp [kOf] at h2
  exact h1
theorem tiOf_int {t : TypeId} {i : TI} {k : IntKind} (h : tiOf P t = some i) (hk : i.desc = .int k) : P.underlying t = some (.int k) := by
  obtain ⟨d, h1, h2⟩ := tiOf_und h
  rw [hk] at h2
  cases d <;> simp [kOf] at h2
  rw [h1, h2]

/-- The cells that a pointer leads to, from its place on. -/
def St.cellsAt (s : St) : AV → Option (List AV)
  | .ptr b o => match look s.bx b with
    | some (.var cs) => some (cs.drop o)
    | _ => none
  | .eptr cs => some (cs.map .pv)
  | _ => none
def loadAV (i : TI) (cs : List AV) : Option AV :=
  bif aggD i.desc then (bif Nat.ble i.size cs.length then some (.agg (cs.take i.size)) else none) else cs.head?

theorem add_plain0 (k o j : Nat) : (⟨k, o, none⟩ : Addr).add j = ⟨k, o + j, none⟩ := by
  unfold Addr.add
  split
  · rename_i h; subst h; rfl
  · rfl
theorem add_spot (a : Addr) (h : a.spot = none) (j : Nat) : a.add j = ⟨a.block, a.off + j, none⟩ := by
  obtain ⟨b, o, sp⟩ := a
  simp only at h
  subst h
  exact add_plain0 b o j
/-- What stands in memory where a pointer leads. -/
theorem SR.cells (h : SR cx s a w G) {x : AV} {v : Value} {cs : List AV} (hx : RA G x v) (hc : s.cellsAt x = some cs) :
    ∃ ad, v = .pointer (some ad) ∧ ad.spot = none ∧ ∀ (j : Nat) y, cs[j]? = some y → ∃ u, w.cell? (ad.add j) = some u ∧ RA G y u := by
  cases hx with
  | ptr b o k hb =>
    refine ⟨⟨k, o, none⟩, rfl, rfl, fun j y hy => ?_⟩
    simp only [St.cellsAt] at hc
    split at hc
    · rename_i cs0 hl
      obtain rfl := Option.some.inj hc
      obtain ⟨k', ty, vs, h1, h2, h3, h4, h5, h6⟩ := h.bx b _ hl
      rw [hb] at h1
      obtain rfl := Option.some.inj h1
      rw [add_plain0, cell_of_row w k (o + j) vs ty (0, 0) h3]
      have hlt : o + j < cs0.length := by
        have := (List.getElem?_eq_some_iff.1 hy).1
        rw [List.length_drop] at this
        omega
      rw [List.getElem?_drop] at hy
      exact ⟨vs[o + j]'(by omega), by simp [h4, hlt], h5 (o + j) y _ hy (by simp [h4, hlt])⟩
    · cases hc
  | eptr cs0 ad hs h1 =>
    refine ⟨ad, rfl, hs, fun j y hy => ?_⟩
    simp only [St.cellsAt] at hc
    obtain rfl := Option.some.inj hc
    rw [List.getElem?_map, Option.map_eq_some_iff] at hy
    obtain ⟨p, hp, rfl⟩ := hy
    obtain ⟨u, h2, h3⟩ := h1 j p hp
    rw [add_spot ad hs]
    exact ⟨u, h.dat _ _ _ h2, .pv _ _ h3⟩
  | _ => simp [St.cellsAt] at hc

theorem OpOk.load {dst : Option Tmp} {t : TypeId} {y : Operand} {ty : TypeId} {pos : String} {after : Array Edge} {gd : Option (Nat × Bool)} {i : TI} {z x : AV} {cs : List AV} (ht : tiOf P t = some i) (hy : s.ev g y = z)
    (hc : s.cellsAt z = some cs) (hx : loadAV i cs = some x) (hd : ∀ t, dst = some t → t < s.n) : OpOk P g ⟨dst, .load t y, ty, pos, after, gd⟩ s (s.putO dst x) := by
  refine OpOk.val (o := ⟨dst, .load t y, ty, pos, after, gd⟩) hd (fun cx a w G hP hg hs => ?_)
  obtain ⟨ad, e1, e2, e3⟩ := hs.cells (hs.ev hg y) (by rw [hy]; exact hc)
  have hrun : ∀ r, (loadVar t ad).run P w = .ok r w → (execOp a.eval ⟨dst, .load t y, ty, pos, after, gd⟩).run P w = .ok (.value r) w := fun r hr => by
    unfold execOp
    simp only [e1, Instr.loadAt, Instr.sureAddr, Sem.run_bind, Sem.run_pure, Result.andThen_ok, hr]
  unfold loadAV at hx
  cases hag : aggD i.desc with
  | true =>
    rw [hag] at hx
    simp only [cond_true] at hx
    cases hb : Nat.ble i.size cs.length with
    | false => rw [hb] at hx; cases hx
    | true =>
      rw [hb] at hx
      simp only [cond_true] at hx
      obtain rfl := Option.some.inj hx
      have hle := Nat.le_of_ble_eq_true hb
      have hpick : ∀ j, j < i.size → ∃ u, w.cell? (ad.add j) = some u ∧ ∀ y, cs[j]? = some y → RA G y u := fun j hj => by
        obtain ⟨u, h1, h2⟩ := e3 j (cs[j]'(by omega)) (by simp [show j < cs.length by omega])
        exact ⟨u, h1, fun y hy => by
          have : cs[j]'(by omega) = y := (List.getElem?_eq_some_iff.1 hy).2
          exact this ▸ h2⟩
      have hex : ∃ f : Nat → Value, ∀ j, j < i.size → w.cell? (ad.add j) = some (f j) ∧ ∀ y, cs[j]? = some y → RA G y (f j) := by
        refine ⟨fun j => if hj : j < i.size then Classical.choose (hpick j hj) else undef, fun j hj => ?_⟩
        simp only [dif_pos hj]
        exact Classical.choose_spec (hpick j hj)
      obtain ⟨f, hf⟩ := hex
      have hl := run_loadCells (P := P) w ad i.size f (fun j hj => (hf j hj).1)
      refine ⟨.agg ((List.range i.size).map f).toArray, hrun _ ?_, ?_⟩
      · simp only [loadVar, Sem.run_bind, tiOf_agg ht w, hag, Result.andThen_ok, if_true, tiOf_size ht w, hl, Sem.run_pure]
      · refine .agg _ _ (by simp; omega) (fun j y u hy hu => ?_)
        have hj : j < i.size := by
          have := (List.getElem?_eq_some_iff.1 hy).1
          rw [List.length_take] at this
          omega
        have hu' : u = f j := by
          simp [hj] at hu
          exact hu.symm
        rw [hu']
        rw [List.getElem?_take, if_pos hj] at hy
        exact (hf j hj).2 y hy
  | false =>
    rw [hag] at hx
    simp only [cond_false] at hx
    obtain ⟨u, h1, h2⟩ := e3 0 x (by rw [← List.head?_eq_getElem?]; exact hx)
    have h0 : ad.add 0 = ad := rfl
    rw [h0] at h1
    refine ⟨u, hrun _ ?_, h2⟩
    have hl : (Go.load ad).run P w = .ok u w := by simp [Go.load, Sem.run, h1]
    simp only [loadVar, Sem.run_bind, tiOf_agg ht w, hag, Result.andThen_ok, Bool.false_eq_true, if_false, hl]
end
end Go.Proofs.YtcbdhdblchmofaaDoor.Vm
