/- The value machine, first part: values without memory, the machine's states, what a state says of the model's frame and world; and the rules of code (sequence, test, block, loop, region). Conditions: none. -/
import Derived.Orders
import Derived.Laws.OwnMore
import Derived.Laws.MakeOwn
import Derived.Below
import Derived.LoopN
namespace Go.Proofs.YtcbdhdblchmofaaDoor.Vm
open Go Go.RowKit
set_option linter.unusedVariables false

/-- A value that holds no address. -/
inductive PV where
  | int (k : IntKind) (n : Int)
  | bool (b : Bool)
  | str (s : ByteArray)
  | flt (k : FloatKind) (n : Nat)
  | agg (cs : List PV)
  | lst (sz : Nat) (xs : List PV)
  | ifc (t : TypeId) (v : PV)
  | nil
  | nilI
  | nilF
  | fn (f : FuncId)

def PV.cells : PV → List PV
  | .agg cs => cs
  | x => [x]

def PV.one : PV → Bool
  | .agg _ => false
  | _ => true

/-- What a value says of the model's value, where the cells 'dat' are known for good. -/
inductive RP (dat : Nat → Nat → Option Value) : PV → Value → Prop
  | int (k : IntKind) (n : Int) : RP dat (.int k n) (.int k n)
  | bool (b : Bool) : RP dat (.bool b) (.bool b)
  | str (s : ByteArray) : RP dat (.str s) (.string s)
  | flt (k : FloatKind) (n : Nat) : RP dat (.flt k n) (.float k n)
  | agg (cs : List PV) (vs : Array Value) (hl : vs.size = cs.length) (h1 : ∀ x ∈ cs, x.one = true)
      (h : ∀ (i : Nat) x v, cs[i]? = some x → vs[i]? = some v → RP dat x v) : RP dat (.agg cs) (.agg vs)
  | lst (sz : Nat) (xs : List PV) (A : Option Addr) (n c : Nat) (hn : n = xs.length) (hc : n ≤ c) (hm : c ≤ maxLen)
      (hz : ∀ e ∈ xs, e.cells.length = sz) (h1 : ∀ e ∈ xs, ∀ x ∈ e.cells, x.one = true)
      (h0 : A = none → xs = []) (hs : ∀ (a : Addr), A = some a → a.spot = none)
      (hd : ∀ (a : Addr) (i j : Nat) e x, A = some a → xs[i]? = some e → e.cells[j]? = some x → ∃ v, dat a.block (a.off + (i * sz + j)) = some v)
      (hr : ∀ (a : Addr) (i j : Nat) e x v, A = some a → xs[i]? = some e → e.cells[j]? = some x → dat a.block (a.off + (i * sz + j)) = some v → RP dat x v) :
      RP dat (.lst sz xs) (.slice A n c)
  | ifc (t : TypeId) (x : PV) (v : Value) (h : RP dat x v) : RP dat (.ifc t x) (.iface t v)
  | nil : RP dat .nil (.slice none 0 0)
  | nilI : RP dat .nilI .nilIface
  | nilF : RP dat .nilF .nilFunc
  | fn (f : FuncId) : RP dat (.fn f) (.func (.func f) #[] #[])

theorem RP.mono {dat dat' : Nat → Nat → Option Value} (hle : ∀ b o v, dat b o = some v → dat' b o = some v) {x : PV} {v : Value} (h : RP dat x v) : RP dat' x v := by
  induction h with
  | int k n => exact .int k n
  | bool b => exact .bool b
  | str s => exact .str s
  | flt k n => exact .flt k n
  | agg cs vs hl h1 _ ih => exact .agg cs vs hl h1 ih
  | lst sz xs A n c hn hc hm hz h1 h0 hs hd hr ih =>
    refine .lst sz xs A n c hn hc hm hz h1 h0 hs (fun a i j e x ha he hx => ?_) (fun a i j e x v ha he hx hv => ?_)
    · obtain ⟨v, hv⟩ := hd a i j e x ha he hx
      exact ⟨v, hle _ _ _ hv⟩
    · obtain ⟨u, hu⟩ := hd a i j e x ha he hx
      have e1 := hle _ _ _ hu
      rw [hv] at e1
      obtain rfl := Option.some.inj e1
      exact ih a i j e x v ha he hx hu
  | ifc t x v _ ih => exact .ifc t x v ih
  | nil => exact .nil
  | nilI => exact .nilI
  | nilF => exact .nilF
  | fn f => exact .fn f

/-- A value that the machine holds in a slot. -/
inductive AV where
  | any
  | pv (p : PV)
  | agg (cs : List AV)
  | tup (vs : List AV)
  | gl (b n : Nat)
  | ptr (b o : Nat)
  | vrow (b o n : Nat)
  | eptr (cs : List PV)
  | clo (f : FuncId) (cs : List AV)

/-- A variable, or a slice of the call's own that only grows. -/
inductive Box where
  | var (cs : List AV)
  | lst (e sz : Nat) (xs : List PV)

structure Gh where
  dat : Nat → Nat → Option Value
  blk : Nat → Option Nat
  ls : Nat → Option (Nat × List PV × Value)

inductive RA (G : Gh) : AV → Value → Prop
  | any (v : Value) : RA G .any v
  | pv (p : PV) (v : Value) (h : RP G.dat p v) : RA G (.pv p) v
  | agg (cs : List AV) (vs : Array Value) (hl : vs.size = cs.length) (h : ∀ (i : Nat) x v, cs[i]? = some x → vs[i]? = some v → RA G x v) : RA G (.agg cs) (.agg vs)
  | tup (cs : List AV) (vs : Array Value) (hl : vs.size = cs.length) (h : ∀ (i : Nat) x v, cs[i]? = some x → vs[i]? = some v → RA G x v) : RA G (.tup cs) (.tuple vs)
  | gl (b n : Nat) (v : Value) (sz : Nat) (xs : List PV) (h : Value) (hb : G.ls b = some (sz, xs, h)) (hn : n ≤ xs.length) (hp : RP G.dat (.lst sz (xs.take n)) v) (hv : n = xs.length → v = h) : RA G (.gl b n) v
  | ptr (b o k : Nat) (hb : G.blk b = some k) : RA G (.ptr b o) (.pointer (some ⟨k, o, none⟩))
  | vrow (b o n c k : Nat) (hb : G.blk b = some k) (hc : n ≤ c) : RA G (.vrow b o n) (.slice (some ⟨k, o, none⟩) n c)
  | eptr (cs : List PV) (a : Addr) (hs : a.spot = none) (h : ∀ (j : Nat) x, cs[j]? = some x → ∃ v, G.dat a.block (a.off + j) = some v ∧ RP G.dat x v) : RA G (.eptr cs) (.pointer (some a))
  | clo (f : FuncId) (cs : List AV) (vs : Array Value) (hl : vs.size = cs.length) (h : ∀ (i : Nat) x v, cs[i]? = some x → vs[i]? = some v → RA G x v) : RA G (.clo f cs) (.func (.func f) #[] vs)

structure Gh.Le (G G' : Gh) : Prop where
  dat : ∀ b o v, G.dat b o = some v → G'.dat b o = some v
  blk : ∀ b k, G.blk b = some k → G'.blk b = some k
  ls : ∀ b sz xs h, G.ls b = some (sz, xs, h) → ∃ ys h', G'.ls b = some (sz, xs ++ ys, h') ∧ (ys = [] → h' = h)

theorem Gh.Le.refl (G : Gh) : G.Le G := ⟨fun _ _ _ h => h, fun _ _ h => h, fun b sz xs h hb => ⟨[], h, by simpa using hb, fun _ => rfl⟩⟩

theorem RA.mono {G G' : Gh} (hle : G.Le G') {x : AV} {v : Value} (h : RA G x v) : RA G' x v := by
  induction h with
  | any v => exact .any v
  | pv p v h => exact .pv p v (h.mono hle.dat)
  | agg cs vs hl _ ih => exact .agg cs vs hl ih
  | tup cs vs hl _ ih => exact .tup cs vs hl ih
  | gl b n v sz xs h hb hn hp hv =>
    obtain ⟨ys, h', hb', hy⟩ := hle.ls b sz xs h hb
    refine .gl b n v sz (xs ++ ys) h' hb' (by rw [List.length_append]; omega) ?_ (fun e => ?_)
    · rw [List.take_append_of_le_length hn]
      exact hp.mono hle.dat
    · rw [List.length_append] at e
      have : ys = [] := List.eq_nil_of_length_eq_zero (by omega)
      rw [hy this]
      exact hv (by omega)
  | ptr b o k hb => exact .ptr b o k (hle.blk b k hb)
  | vrow b o n c k hb hc => exact .vrow b o n c k (hle.blk b k hb) hc
  | eptr cs a hs h =>
    refine .eptr cs a hs (fun j x hx => ?_)
    obtain ⟨v, h1, h2⟩ := h j x hx
    exact ⟨v, hle.dat _ _ _ h1, h2.mono hle.dat⟩
  | clo f cs vs hl _ ih => exact .clo f cs vs hl ih

def look {α : Type} : List (Nat × α) → Nat → Option α
  | [], _ => none
  | (k, x) :: l, i => bif Nat.beq k i then some x else look l i

theorem look_cons {α : Type} (k : Nat) (x : α) (l : List (Nat × α)) (i : Nat) : look ((k, x) :: l) i = if k = i then some x else look l i := by
  by_cases h : k = i
  · subst h; simp [look, Nat.beq_refl]
  · rw [if_neg h]
    have : Nat.beq k i = false := by
      cases hb : Nat.beq k i with
      | false => rfl
      | true => exact absurd (Nat.eq_of_beq_eq_true hb) h
    simp [look, this]

structure St where
  n : Nat
  tm : List (Nat × AV)
  bx : List (Nat × Box)

def St.get (s : St) (t : Nat) : AV := (look s.tm t).getD .any
def St.put (s : St) (t : Nat) (x : AV) : St := { s with tm := (t, x) :: s.tm }
def St.box (s : St) (b : Nat) (x : Box) : St := { s with bx := (b, x) :: s.bx }
def St.putO (s : St) : Option Tmp → AV → St
  | some t, x => s.put t x
  | none, _ => s

def dstOk : Option Tmp → Nat → Bool
  | some t, n => Nat.blt t n
  | none, _ => true
theorem dlt {d : Option Tmp} {n : Nat} (h : dstOk d n = true) : ∀ t, d = some t → t < n := fun t e => by subst e; exact Nat.le_of_ble_eq_true h
theorem blt {a b : Nat} (h : Nat.blt a b = true) : a < b := Nat.le_of_ble_eq_true h
/-- The call: the program, where its own memory begins, the world and the cells that were there. -/
structure Cx where
  P : Program
  base : Nat
  w0 : World
  dat0 : Nat → Nat → Option Value
  g : Nat → Option (List PV)

def BoxOk (c : Cx) (G : Gh) (w : World) (b : Nat) : Box → Prop
  | .var cs => ∃ k ty vs, G.blk b = some k ∧ c.base ≤ k ∧ w.heap[k]? = some (.cells vs ty (0, 0)) ∧ vs.size = cs.length ∧ (∀ (i : Nat) x v, cs[i]? = some x → vs[i]? = some v → RA G x v) ∧ (∀ o, G.dat k o = none)
  | .lst e sz xs => ∃ h us, G.ls b = some (sz, xs, h) ∧ 0 < sz ∧ w.ownsRow c.base e sz h xs.length us ∧ RP G.dat (.lst sz xs) h ∧ (∀ k, h.ownBlock = some k → ∀ o, xs.length * sz ≤ o → G.dat k o = none)

def Gh.own (G : Gh) (b : Nat) : Option Nat :=
  match G.blk b with
  | some k => some k
  | none => (G.ls b).bind fun x => x.2.2.ownBlock

structure SR (c : Cx) (s : St) (a : Act) (w : World) (G : Gh) : Prop where
  tm : ∀ t, RA G (s.get t) (a.tmps.getD t undef)
  sz : a.tmps.size = s.n
  df : a.defers = []
  dat : ∀ b o v, G.dat b o = some v → w.cell? ⟨b, o, none⟩ = some v
  bx : ∀ b B, look s.bx b = some B → BoxOk c G w b B
  gb : ∀ b k, G.blk b = some k → ∃ cs, look s.bx b = some (.var cs)
  gl : ∀ b x, G.ls b = some x → ∃ e sz xs, look s.bx b = some (.lst e sz xs)
  inj : ∀ b b' k, G.own b = some k → G.own b' = some k → b = b'
  bel : Below c.base c.w0 w
  low : ∀ b o, b < c.base → G.dat b o = c.dat0 b o
  glo : ∀ g cs, c.g g = some cs → RA G (.eptr cs) (.pointer (some ⟨g, 0, none⟩))
  bas : c.base = c.w0.heap.size

/-- Where code ends. -/
inductive Ex where
  | normal
  | exit (id : Nat)
  | ret

def Ex.is : Ex → Exit → Prop
  | .normal, .normal => True
  | .exit i, .exit j => j = i
  | .ret, .ret => True
  | _, _ => False

/-- The code takes each state of this form to one of that form. -/
def Runs (P : Program) (g : Nat → Option (List PV)) (c : Code) (s : St) (x : Ex) (s' : St) : Prop :=
  ∀ (cx : Cx) (a : Act) (w : World) (G : Gh), cx.P = P → cx.g = g → SR cx s a w G → c.wp P (fun e a' w' => x.is e ∧ ∃ G', SR cx s' a' w' G') a w

section
variable {P : Program} {g : Nat → Option (List PV)} {s s1 s' : St} {x : Ex}

theorem Runs.skip : Runs P g .skip s .normal s := fun cx a w G _ _ h => wp_skip ⟨trivial, G, h⟩
theorem Runs.exit (id : Nat) : Runs P g (.exit id) s (.exit id) s := fun cx a w G _ _ h => wp_exit ⟨rfl, G, h⟩
theorem Runs.ret : Runs P g .ret s .ret s := fun cx a w G _ _ h => wp_ret ⟨trivial, G, h⟩

theorem Runs.seq {c d : Code} (h1 : Runs P g c s .normal s1) (h2 : Runs P g d s1 x s') : Runs P g (.seq c d) s x s' := by
  intro cx a w G hP hg h
  refine wp_seq (Code.wp_mono ?_ (h1 cx a w G hP hg h))
  rintro e a' w' ⟨he, G', h'⟩
  cases e <;> simp only [Ex.is] at he
  exact h2 cx a' w' G' hP hg h'
theorem Runs.seqOut {c d : Code} (h1 : Runs P g c s x s') (hx : x ≠ .normal) : Runs P g (.seq c d) s x s' := by
  intro cx a w G hP hg h
  refine wp_seq (Code.wp_mono ?_ (h1 cx a w G hP hg h))
  rintro e a' w' ⟨he, G', h'⟩
  cases e <;> cases x <;> simp only [Ex.is] at he <;> first | exact absurd rfl hx | exact ⟨he, G', h'⟩ | exact ⟨trivial, G', h'⟩

theorem Runs.block {id : Nat} {c : Code} (h1 : Runs P g c s .normal s') : Runs P g (.block id c) s .normal s' := by
  intro cx a w G hP hg h
  refine wp_block (Code.wp_mono ?_ (h1 cx a w G hP hg h))
  rintro e a' w' ⟨he, G', h'⟩
  cases e <;> simp only [Ex.is] at he
  exact ⟨trivial, G', h'⟩
theorem Runs.blockOf {id : Nat} {c : Code} (h1 : Runs P g c s (.exit id) s') : Runs P g (.block id c) s .normal s' := by
  intro cx a w G hP hg h
  refine wp_block (Code.wp_mono ?_ (h1 cx a w G hP hg h))
  rintro e a' w' ⟨he, G', h'⟩
  cases e <;> simp only [Ex.is] at he
  subst he
  simp only [Exit.inBlock, if_true]
  exact ⟨trivial, G', h'⟩
theorem Runs.blockOut {id : Nat} {c : Code} (h1 : Runs P g c s x s') (hx : x ≠ .normal) (hid : x ≠ .exit id) : Runs P g (.block id c) s x s' := by
  intro cx a w G hP hg h
  refine wp_block (Code.wp_mono ?_ (h1 cx a w G hP hg h))
  rintro e a' w' ⟨he, G', h'⟩
  cases e <;> cases x <;> simp only [Ex.is] at he
  · exact absurd rfl hx
  · subst he
    rename_i j
    have : j ≠ id := fun e => hid (by rw [e])
    simp only [Exit.inBlock, if_neg this]
    exact ⟨rfl, G', h'⟩
  · exact ⟨trivial, G', h'⟩

theorem Runs.loopOut {c : Code} (h1 : Runs P g c s x s') (hx : x ≠ .normal) : Runs P g (.loop c) s x s' := by
  intro cx a w G hP hg h
  refine wp_loop_once (Code.wp_mono ?_ (h1 cx a w G hP hg h))
  rintro e a' w' ⟨he, G', h'⟩
  cases e <;> cases x <;> simp only [Ex.is] at he <;> first | exact absurd rfl hx | exact ⟨he, G', h'⟩ | exact ⟨trivial, G', h'⟩

def LoopsN (P : Program) (g : Nat → Option (List PV)) (c : Code) (n : Nat) (s : St) (x : Ex) (s' : St) : Prop :=
  ∀ (cx : Cx) (a : Act) (w : World) (G : Gh), cx.P = P → cx.g = g → SR cx s a w G → Code.rounds P c (fun e a' w' => x.is e ∧ ∃ G', SR cx s' a' w' G') n a w
/-- A loop ends so. -/
def Loops (P : Program) (g : Nat → Option (List PV)) (c : Code) (s : St) (x : Ex) (s' : St) : Prop := ∃ n, LoopsN P g c n s x s'
theorem Loops.out {c : Code} (h1 : Runs P g c s x s') (hx : x ≠ .normal) : Loops P g c s x s' := by
  refine ⟨1, fun cx a w G hP hg h => ?_⟩
  rw [rounds_succ]
  refine Code.wp_mono ?_ (h1 cx a w G hP hg h)
  rintro e a' w' ⟨he, G', h'⟩
  cases e <;> cases x <;> simp only [Ex.is] at he <;> first | exact absurd rfl hx | exact ⟨he, G', h'⟩ | exact ⟨trivial, G', h'⟩
theorem Loops.step {c : Code} (h1 : Runs P g c s .normal s1) (h2 : Loops P g c s1 x s') : Loops P g c s x s' := by
  obtain ⟨n, h2⟩ := h2
  refine ⟨n + 1, fun cx a w G hP hg h => ?_⟩
  rw [rounds_succ]
  refine Code.wp_mono ?_ (h1 cx a w G hP hg h)
  rintro e a' w' ⟨he, G', h'⟩
  cases e <;> simp only [Ex.is] at he
  exact h2 cx a' w' G' hP hg h'
theorem Runs.loop {c : Code} (h1 : Loops P g c s x s') : Runs P g (.loop c) s x s' := by
  obtain ⟨n, h1⟩ := h1
  exact fun cx a w G hP hg h => wp_loop_rounds n (h1 cx a w G hP hg h)

/-- One state says no more than another. -/
def SLe (s s1 : St) : Prop := ∀ (cx : Cx) (a : Act) (w : World) (G : Gh), SR cx s a w G → ∃ G', SR cx s1 a w G'
theorem SLe.refl (s : St) : SLe s s := fun _ _ _ G h => ⟨G, h⟩
theorem SLe.trans {a b c : St} (h : SLe a b) (k : SLe b c) : SLe a c := fun cx x w G hs => let ⟨G', h'⟩ := h cx x w G hs; k cx x w G' h'
theorem Runs.pre {c : Code} (h : SLe s s1) (h1 : Runs P g c s1 x s') : Runs P g c s x s' := fun cx a w G hP hg hs =>
  let ⟨G', h'⟩ := h cx a w G hs; h1 cx a w G' hP hg h'
theorem Runs.post {c : Code} (h1 : Runs P g c s x s1) (h : SLe s1 s') : Runs P g c s x s' := fun cx a w G hP hg hs =>
  Code.wp_mono (fun e a' w' ⟨he, G', h'⟩ => let ⟨G2, h2⟩ := h cx a' w' G' h'; ⟨he, G2, h2⟩) (h1 cx a w G hP hg hs)
theorem Loops.pre {c : Code} (h : SLe s s1) (h1 : Loops P g c s1 x s') : Loops P g c s x s' := by
  obtain ⟨n, h1⟩ := h1
  exact ⟨n, fun cx a w G hP hg hs => let ⟨G', h'⟩ := h cx a w G hs; h1 cx a w G' hP hg h'⟩

theorem Runs.cond {q : Operand} {c d : Code} {b : Bool} (hq : ∀ cx a w G, SR cx s a w G → a.eval q = .bool b) (h : Runs P g (if b then c else d) s x s') : Runs P g (.cond q c d) s x s' :=
  fun cx a w G hP hg hs => wp_cond (hq cx a w G hs) (h cx a w G hP hg hs)

/-- One operation takes each state of this form to one of that form. -/
def OpOk (P : Program) (g : Nat → Option (List PV)) (o : Oper) (s s1 : St) : Prop :=
  ∀ (cx : Cx) (a : Act) (w : World) (G : Gh), cx.P = P → cx.g = g → SR cx s a w G → ∀ (K : Act → World → Prop) (Q : Exit → Act → World → Prop),
    (∀ a' w' G', SR cx s1 a' w' G' → K a' w') → o.wp P a w K Q
def RunsOps (P : Program) (g : Nat → Option (List PV)) (ops : Array Oper) (l : List Oper) (s s' : St) : Prop :=
  ∀ (cx : Cx) (a : Act) (w : World) (G : Gh), cx.P = P → cx.g = g → SR cx s a w G → ∀ (Q : Exit → Act → World → Prop),
    (∀ a' w' G', SR cx s' a' w' G' → Q .normal a' w') → wpList P ops Q l a w
theorem Runs.region {id : Nat} {l : List Oper} (h : RunsOps P g l.toArray l s s') : Runs P g (.region id l.toArray false) s .normal s' :=
  fun cx a w G hP hg hs => wp_region_lit (h cx a w G hP hg hs _ fun a' w' G' h' => ⟨trivial, G', h'⟩)
theorem RunsOps.nil {ops : Array Oper} : RunsOps P g ops [] s s := fun cx a w G hP hg hs Q hQ => hQ a w G hs
theorem RunsOps.op {ops : Array Oper} {o : Oper} {l : List Oper} (hgd : o.guard = none) (h1 : OpOk P g o s s1) (h2 : RunsOps P g ops l s1 s') : RunsOps P g ops (o :: l) s s' :=
  fun cx a w G hP hg hs Q hQ => wpList_plain hgd fun K hK => h1 cx a w G hP hg hs K Q fun a' w' G' h' => hK a' w' (h2 cx a' w' G' hP hg h' Q hQ)
theorem RunsOps.pre {ops : Array Oper} {l : List Oper} (h : SLe s s1) (h2 : RunsOps P g ops l s1 s') : RunsOps P g ops l s s' :=
  fun cx a w G hP hg hs Q hQ => let ⟨G', h'⟩ := h cx a w G hs; h2 cx a w G' hP hg h' Q hQ

theorem SR.slot {cx : Cx} {a : Act} {w : World} {G : Gh} (h : SR cx s a w G) {t : Nat} {x : AV} (ht : s.get t = x) : RA G x (a.tmps.getD t undef) := ht ▸ h.tm t
theorem SR.boolSlot {cx : Cx} {a : Act} {w : World} {G : Gh} (h : SR cx s a w G) {t : Nat} {b : Bool} (ht : s.get t = .pv (.bool b)) : a.tmps.getD t undef = .bool b := by
  have h1 := h.slot ht
  generalize a.tmps.getD t undef = v at h1 ⊢
  cases h1 with
  | pv _ _ h => cases h; rfl

theorem yielded_of {ops : Array Oper} {tmps : Array Value} {j t : Nat} {b : Bool} (hj : (ops[j]?).bind (·.dst) = some t) (h : tmps.getD t undef = .bool b) : yielded ops tmps j = some b := by
  have h1 : tmps[t]? = some (.bool b) := by
    rw [Array.getD_eq_getD_getElem?] at h
    cases hx : tmps[t]? with
    | none => rw [hx] at h; simp [undef] at h
    | some v => rw [hx] at h; simpa using h
  unfold yielded
  simp [hj, h1]
theorem RunsOps.guardYes {ops : Array Oper} {o : Oper} {l : List Oper} {j t : Nat} {b want : Bool} (hgd : o.guard = some (j, want)) (hj : (ops[j]?).bind (·.dst) = some t) (ht : s.get t = .pv (.bool b)) (hb : b = want)
    (h1 : OpOk P g o s s1) (h2 : RunsOps P g ops l s1 s') : RunsOps P g ops (o :: l) s s' := by
  intro cx a w G hP hg hs Q hQ
  subst hb
  have hy := yielded_of hj (hs.boolSlot ht)
  refine wpList_step fun K hK => ?_
  rw [if_pos (by simp [Region.wanted, hgd, hy])]
  exact h1 cx a w G hP hg hs K Q fun a' w' G' h' => hK a' w' (h2 cx a' w' G' hP hg h' Q hQ)

theorem SR.put {cx : Cx} {a : Act} {w : World} {G : Gh} (h : SR cx s a w G) {d : Nat} {x : AV} {v : Value} (hd : d < s.n) (hx : RA G x v) : SR cx (s.put d x) (a.put (some d) v) w G := by
  refine ⟨fun t => ?_, by simp [Act.put, St.put, h.sz], h.df, h.dat, h.bx, h.gb, h.gl, h.inj, h.bel, h.low, h.glo, h.bas⟩
  unfold St.get St.put
  rw [look_cons]
  by_cases e : d = t
  · subst e
    rw [if_pos rfl]
    have : (a.tmps.setIfInBounds d v).getD d undef = v := by
      have hlt : d < a.tmps.size := by rw [h.sz]; exact hd
      simp [Array.getD_eq_getD_getElem?, hlt]
    show RA G x ((a.tmps.setIfInBounds d v).getD d undef)
    rw [this]
    exact hx
  · rw [if_neg e]
    have : (a.tmps.setIfInBounds d v).getD t undef = a.tmps.getD t undef := by
      simp [Array.getD_eq_getD_getElem?, Array.getElem?_setIfInBounds_ne e]
    show RA G _ ((a.tmps.setIfInBounds d v).getD t undef)
    rw [this]
    exact h.tm t
theorem SR.putO {cx : Cx} {a : Act} {w : World} {G : Gh} (h : SR cx s a w G) {d : Option Tmp} {x : AV} {v : Value} (hd : ∀ t, d = some t → t < s.n) (hx : RA G x v) : SR cx (s.putO d x) (a.put d v) w G := by
  cases d with
  | none => exact h
  | some d => exact h.put (hd d rfl) hx
/-- What a guard does not ask for: the other truth; nothing at all. -/
def offB (want : Bool) : AV → Bool
  | .pv (.bool b) => b != want
  | .tup [] => true
  | _ => false
theorem yielded_off {G : Gh} {ops : Array Oper} {tmps : Array Value} {j t : Nat} {want : Bool} {x : AV} (hj : (ops[j]?).bind (·.dst) = some t) (h : RA G x (tmps.getD t undef)) (hx : offB want x = true) : yielded ops tmps j ≠ some want := by
  unfold yielded
  rw [hj]
  simp only [Option.bind_some]
  cases hv : tmps[t]? with
  | none => simp
  | some v =>
    have e : tmps.getD t undef = v := by rw [Array.getD_eq_getD_getElem?, hv]; rfl
    rw [e] at h
    cases h with
    | pv p v h =>
      cases h <;> simp only [offB] at hx <;> first | (cases hx; done) | skip
      rename_i b
      cases b <;> cases want <;> simp at hx ⊢
    | tup cs vs hl h => simp
    | _ => simp [offB] at hx
theorem RA.undef {G : Gh} : RA G (.tup []) undef := .tup [] #[] rfl (fun i x v hx => by simp at hx)
theorem RunsOps.guardNo {ops : Array Oper} {o : Oper} {l : List Oper} {j t : Nat} {want : Bool} {x : AV} (hgd : o.guard = some (j, want)) (hj : (ops[j]?).bind (·.dst) = some t) (ht : s.get t = x) (hb : offB want x = true)
    (hd : ∀ t, o.dst = some t → t < s.n) (h2 : RunsOps P g ops l (s.putO o.dst (.tup [])) s') : RunsOps P g ops (o :: l) s s' := by
  intro cx a w G hP hg hs Q hQ
  have hy := yielded_off hj (hs.slot ht) hb
  refine wpList_step fun K hK => ?_
  rw [if_neg (by simp [Region.wanted, hgd, hy])]
  exact hK _ _ (h2 cx _ w G hP hg (hs.putO hd RA.undef) Q hQ)
end
end Go.Proofs.YtcbdhdblchmofaaDoor.Vm
