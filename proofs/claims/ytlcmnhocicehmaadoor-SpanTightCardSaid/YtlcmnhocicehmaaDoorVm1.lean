/- The value machine, joined: part 1 of 4. Conditions: none. -/
import Derived.Orders
import Derived.Laws.OwnMore
import Derived.Laws.MakeOwn
import Derived.Below
import Derived.LoopN
import Derived.Laws.Sem
import Derived.Laws.Cells
/- The value machine, first part: values without memory, the machine's states, what a state says of the model's frame and world; and the rules of code (sequence, test, block, loop, region). Conditions: none. -/
namespace Go.Proofs.YtlcmnhocicehmaaDoor.Vm
open Go Go.RowKit
set_option linter.unusedVariables false

/-- A value that holds no address. -/
inductive PV where
  | int (k : IntKind) (n : Int)
  | bool (b : Bool)
  | str (s : ByteArray)
  | flt (k : FloatKind) (n : Nat)
  | agg (cs : List PV)
  | lst (sz : Nat) (xs : List PV)
  | ifc (t : TypeId) (v : PV)
  | nil
  | nilI
  | nilF
  | fn (f : FuncId)

def PV.cells : PV → List PV
  | .agg cs => cs
  | x => [x]

def PV.one : PV → Bool
  | .agg _ => false
  | _ => true

/-- What a value says of the model's value, where the cells 'dat' are known for good. -/
inductive RP (dat : Nat → Nat → Option Value) : PV → Value → Prop
  | int (k : IntKind) (n : Int) : RP dat (.int k n) (.int k n)
  | bool (b : Bool) : RP dat (.bool b) (.bool b)
  | str (s : ByteArray) : RP dat (.str s) (.string s)
  | flt (k : FloatKind) (n : Nat) : RP dat (.flt k n) (.float k n)
  | agg (cs : List PV) (vs : Array Value) (hl : vs.size = cs.length) (h1 : ∀ x ∈ cs, x.one = true)
      (h : ∀ (i : Nat) x v, cs[i]? = some x → vs[i]? = some v → RP dat x v) : RP dat (.agg cs) (.agg vs)
  | lst (sz : Nat) (xs : List PV) (A : Option Addr) (n c : Nat) (hn : n = xs.length) (hc : n ≤ c) (hm : c ≤ maxLen)
      (hz : ∀ e ∈ xs, e.cells.length = sz) (h1 : ∀ e ∈ xs, ∀ x ∈ e.cells, x.one = true)
      (h0 : A = none → xs = []) (hs : ∀ (a : Addr), A = some a → a.spot = none)
      (hd : ∀ (a : Addr) (i j : Nat) e x, A = some a → xs[i]? = some e → e.cells[j]? = some x → ∃ v, dat a.block (a.off + (i * sz + j)) = some v)
      (hr : ∀ (a : Addr) (i j : Nat) e x v, A = some a → xs[i]? = some e → e.cells[j]? = some x → dat a.block (a.off + (i * sz + j)) = some v → RP dat x v) :
      RP dat (.lst sz xs) (.slice A n c)
  | ifc (t : TypeId) (x : PV) (v : Value) (h : RP dat x v) : RP dat (.ifc t x) (.iface t v)
  | nil : RP dat .nil (.slice none 0 0)
  | nilI : RP dat .nilI .nilIface
  | nilF : RP dat .nilF .nilFunc
  | fn (f : FuncId) : RP dat (.fn f) (.func (.func f) #[] #[])

theorem RP.mono {dat dat' : Nat → Nat → Option Value} (hle : ∀ b o v, dat b o = some v → dat' b o = some v) {x : PV} {v : Value} (h : RP dat x v) : RP dat' x v := by
  induction h with
  | int k n => exact .int k n
  | bool b => exact .bool b
  | str s => exact .str s
  | flt k n => exact .flt k n
  | agg cs vs hl h1 _ ih => exact .agg cs vs hl h1 ih
  | lst sz xs A n c hn hc hm hz h1 h0 hs hd hr ih =>
    refine .lst sz xs A n c hn hc hm hz h1 h0 hs (fun a i j e x ha he hx => ?_) (fun a i j e x v ha he hx hv => ?_)
    · obtain ⟨v, hv⟩ := hd a i j e x ha he hx
      exact ⟨v, hle _ _ _ hv⟩
    · obtain ⟨u, hu⟩ := hd a i j e x ha he hx
      have e1 := hle _ _ _ hu
      rw [hv] at e1
      obtain rfl := Option.some.inj e1
      exact ih a i j e x v ha he hx hu
  | ifc t x v _ ih => exact .ifc t x v ih
  | nil => exact .nil
  | nilI => exact .nilI
  | nilF => exact .nilF
  | fn f => exact .fn f

/-- A value that the machine holds in a slot. -/
inductive AV where
  | any
  | pv (p : PV)
  | agg (cs : List AV)
  | tup (vs : List AV)
  | gl (b n : Nat)
  | ptr (b o : Nat)
  | vrow (b o n : Nat)
  | eptr (cs : List PV)
  | clo (f : FuncId) (cs : List AV)

/-- A variable, or a slice of the call's own that only grows. -/
inductive Box where
  | var (cs : List AV)
  | lst (e sz : Nat) (xs : List PV)
  | iter (s : ByteArray) (pos : Nat)
/-- A box that is one block: a variable, or where a text's range stands. -/
def Box.blk : Box → Bool
  | .lst _ _ _ => false
  | _ => true

structure Gh where
  dat : Nat → Nat → Option Value
  blk : Nat → Option Nat
  ls : Nat → Option (Nat × List PV × Value)

inductive RA (G : Gh) : AV → Value → Prop
  | any (v : Value) : RA G .any v
  | pv (p : PV) (v : Value) (h : RP G.dat p v) : RA G (.pv p) v
  | agg (cs : List AV) (vs : Array Value) (hl : vs.size = cs.length) (h : ∀ (i : Nat) x v, cs[i]? = some x → vs[i]? = some v → RA G x v) : RA G (.agg cs) (.agg vs)
  | tup (cs : List AV) (vs : Array Value) (hl : vs.size = cs.length) (h : ∀ (i : Nat) x v, cs[i]? = some x → vs[i]? = some v → RA G x v) : RA G (.tup cs) (.tuple vs)
  | gl (b n : Nat) (v : Value) (sz : Nat) (xs : List PV) (h : Value) (hb : G.ls b = some (sz, xs, h)) (hn : n ≤ xs.length) (hp : RP G.dat (.lst sz (xs.take n)) v) (hv : n = xs.length → v = h) : RA G (.gl b n) v
  | ptr (b o k : Nat) (hb : G.blk b = some k) : RA G (.ptr b o) (.pointer (some ⟨k, o, none⟩))
  | vrow (b o n c k : Nat) (hb : G.blk b = some k) (hc : n ≤ c ∧ c ≤ maxLen) : RA G (.vrow b o n) (.slice (some ⟨k, o, none⟩) n c)
  | eptr (cs : List PV) (a : Addr) (hs : a.spot = none) (h : ∀ (j : Nat) x, cs[j]? = some x → ∃ v, G.dat a.block (a.off + j) = some v ∧ RP G.dat x v) : RA G (.eptr cs) (.pointer (some a))
  | clo (f : FuncId) (cs : List AV) (vs : Array Value) (hl : vs.size = cs.length) (h : ∀ (i : Nat) x v, cs[i]? = some x → vs[i]? = some v → RA G x v) : RA G (.clo f cs) (.func (.func f) #[] vs)

structure Gh.Le (G G' : Gh) : Prop where
  dat : ∀ b o v, G.dat b o = some v → G'.dat b o = some v
  blk : ∀ b k, G.blk b = some k → G'.blk b = some k
  ls : ∀ b sz xs h, G.ls b = some (sz, xs, h) → ∃ ys h', G'.ls b = some (sz, xs ++ ys, h') ∧ (ys = [] → h' = h)

theorem Gh.Le.refl (G : Gh) : G.Le G := ⟨fun _ _ _ h => h, fun _ _ h => h, fun b sz xs h hb => ⟨[], h, by simpa using hb, fun _ => rfl⟩⟩

theorem RA.mono {G G' : Gh} (hle : G.Le G') {x : AV} {v : Value} (h : RA G x v) : RA G' x v := by
  induction h with
  | any v => exact .any v
  | pv p v h => exact .pv p v (h.mono hle.dat)
  | agg cs vs hl _ ih => exact .agg cs vs hl ih
  | tup cs vs hl _ ih => exact .tup cs vs hl ih
  | gl b n v sz xs h hb hn hp hv =>
    obtain ⟨ys, h', hb', hy⟩ := hle.ls b sz xs h hb
    refine .gl b n v sz (xs ++ ys) h' hb' (by rw [List.length_append]; omega) ?_ (fun e => ?_)
    · rw [List.take_append_of_le_length hn]
      exact hp.mono hle.dat
    · rw [List.length_append] at e
      have : ys = [] := List.eq_nil_of_length_eq_zero (by omega)
      rw [hy this]
      exact hv (by omega)
  | ptr b o k hb => exact .ptr b o k (hle.blk b k hb)
  | vrow b o n c k hb hc => exact .vrow b o n c k (hle.blk b k hb) hc
  | eptr cs a hs h =>
    refine .eptr cs a hs (fun j x hx => ?_)
    obtain ⟨v, h1, h2⟩ := h j x hx
    exact ⟨v, hle.dat _ _ _ h1, h2.mono hle.dat⟩
  | clo f cs vs hl _ ih => exact .clo f cs vs hl ih

def look {α : Type} : List (Nat × α) → Nat → Option α
  | [], _ => none
  | (k, x) :: l, i => bif Nat.beq k i then some x else look l i

theorem look_cons {α : Type} (k : Nat) (x : α) (l : List (Nat × α)) (i : Nat) : look ((k, x) :: l) i = if k = i then some x else look l i := by
  by_cases h : k = i
  · subst h; simp [look, Nat.beq_refl]
  · rw [if_neg h]
    have : Nat.beq k i = false := by
      cases hb : Nat.beq k i with
      | false => rfl
      | true => exact absurd (Nat.eq_of_beq_eq_true hb) h
    simp [look, this]

structure St where
  n : Nat
  tm : List (Nat × AV)
  bx : List (Nat × Box)

def St.get (s : St) (t : Nat) : AV := (look s.tm t).getD .any
def St.put (s : St) (t : Nat) (x : AV) : St := { s with tm := (t, x) :: s.tm }
def St.box (s : St) (b : Nat) (x : Box) : St := { s with bx := (b, x) :: s.bx }
def St.putO (s : St) : Option Tmp → AV → St
  | some t, x => s.put t x
  | none, _ => s

def dstOk : Option Tmp → Nat → Bool
  | some t, n => Nat.blt t n
  | none, _ => true
theorem dlt {d : Option Tmp} {n : Nat} (h : dstOk d n = true) : ∀ t, d = some t → t < n := fun t e => by subst e; exact Nat.le_of_ble_eq_true h
theorem blt {a b : Nat} (h : Nat.blt a b = true) : a < b := Nat.le_of_ble_eq_true h
/-- The package variables that are told, and the numbers of the boxes that are lent to the call. -/
structure Gb where
  fn : Nat → Option (List PV)
  ln : List Nat
instance : CoeFun Gb (fun _ => Nat → Option (List PV)) := ⟨Gb.fn⟩
/-- The call: the program, where its own memory begins, the world and the cells that were there. -/
structure Cx where
  P : Program
  base : Nat
  w0 : World
  dat0 : Nat → Nat → Option Value
  g : Gb
  lend : Nat → Option Nat
  may : Nat → Prop
/-- A block that the call may change: one of its own, or one that is lent to it. -/
def Cx.mine (c : Cx) (k : Nat) : Prop := c.base ≤ k ∨ c.may k
/-- A call that nothing is lent to. -/
def Cx.fresh (P : Program) (w : World) (dat : Nat → Nat → Option Value) (g : Nat → Option (List PV)) : Cx := ⟨P, w.heap.size, w, dat, ⟨g, []⟩, fun _ => none, fun _ => False⟩
def inN : List Nat → Nat → Bool
  | [], _ => false
  | a :: l, b => Nat.beq a b || inN l b
theorem inN_ok : ∀ {l : List Nat} {b : Nat}, b ∈ l → inN l b = true
  | a :: l, b, h => by
    simp only [inN, Bool.or_eq_true]
    cases h with
    | head => exact .inl (Nat.beq_refl _)
    | tail _ h => exact .inr (inN_ok h)
structure BelowM (c : Cx) (w : World) : Prop where
  os : w.os = c.w0.os
  tape : w.tape = c.w0.tape
  output : w.output = c.w0.output
  size : c.w0.heap.size ≤ w.heap.size
  block : ∀ k, k < c.base → ¬ c.may k → w.heap[k]? = c.w0.heap[k]?
theorem BelowM.alloc {c : Cx} {w : World} (h : BelowM c w) (hB : c.base ≤ w.heap.size) (o : Obj) : BelowM c (w.alloc o) :=
  have k := (Below.refl w.heap.size w).alloc (Nat.le_refl _) o
  ⟨k.os.trans h.os, k.tape.trans h.tape, k.output.trans h.output, Nat.le_trans h.size k.size, fun i hi hm => (k.block i (by omega)).trans (h.block i hi hm)⟩
theorem BelowM.trans {c : Cx} {w w' : World} (h : BelowM c w) (k : Below c.base w w') : BelowM c w' :=
  ⟨k.os.trans h.os, k.tape.trans h.tape, k.output.trans h.output, Nat.le_trans h.size k.size, fun i hi hm => (k.block i hi).trans (h.block i hi hm)⟩
theorem BelowM.grown {c : Cx} {w w' : World} {row : Option Nat} (h : BelowM c w) (hg : w.grownBy w' row) (hB : c.base ≤ w.heap.size) (hr : ∀ k, row = some k → c.mine k) : BelowM c w' :=
  ⟨hg.os.trans h.os, hg.tape.trans h.tape, hg.output.trans h.output, Nat.le_trans h.size hg.size, fun i hi hm => (hg.block i (by omega) (fun e => by
    rcases hr i e.symm with h | h
    · omega
    · exact hm h)).trans (h.block i hi hm)⟩
theorem BelowM.refl {c : Cx} : BelowM c c.w0 := ⟨rfl, rfl, rfl, Nat.le_refl _, fun _ _ _ => rfl⟩
theorem BelowM.below {P : Program} {w w' : World} {dat : Nat → Nat → Option Value} {g : Nat → Option (List PV)} (h : BelowM (Cx.fresh P w dat g) w') : Below w.heap.size w w' :=
  ⟨h.os, h.tape, h.output, h.size, fun k hk => h.block k hk id⟩
/-- A slice that the call owns. -/
def Cx.owns (c : Cx) (w : World) (e sz : Nat) (h : Value) (n : Nat) (us : List Value) : Prop := w.ownsRow 0 e sz h n us ∧ ∀ k, h.ownBlock = some k → c.mine k
/-- What was known stays known; what is not lent is as it was. -/
def Cx.low (c : Cx) (dat : Nat → Nat → Option Value) : Prop := (∀ b o, b < c.base → ¬ c.may b → dat b o = c.dat0 b o) ∧ ∀ b o v, c.dat0 b o = some v → dat b o = some v

def BoxOk (c : Cx) (G : Gh) (w : World) (b : Nat) : Box → Prop
  | .var cs => ∃ k ty vs, G.blk b = some k ∧ c.mine k ∧ w.heap[k]? = some (.cells vs ty (0, 0)) ∧ cs.length ≤ vs.size ∧ (∀ (i : Nat) x v, cs[i]? = some x → vs[i]? = some v → RA G x v) ∧ (∀ o, G.dat k o = none)
  | .lst e sz xs => ∃ h us, G.ls b = some (sz, xs, h) ∧ 0 < sz ∧ c.owns w e sz h xs.length us ∧ RP G.dat (.lst sz xs) h ∧ (∀ k, h.ownBlock = some k → ∀ o, xs.length * sz ≤ o → G.dat k o = none)
  | .iter s pos => ∃ k, G.blk b = some k ∧ c.mine k ∧ w.heap[k]? = some (.stringIter s pos) ∧ ∀ o, G.dat k o = none

def Gh.own (G : Gh) (b : Nat) : Option Nat :=
  match G.blk b with
  | some k => some k
  | none => (G.ls b).bind fun x => x.2.2.ownBlock

structure SR (c : Cx) (s : St) (a : Act) (w : World) (G : Gh) : Prop where
  tm : ∀ t, RA G (s.get t) (a.tmps.getD t undef)
  sz : a.tmps.size = s.n
  df : a.defers = []
  dat : ∀ b o v, G.dat b o = some v → w.cell? ⟨b, o, none⟩ = some v
  bx : ∀ b B, look s.bx b = some B → BoxOk c G w b B
  gb : ∀ b k, G.blk b = some k → (∃ B, look s.bx b = some B ∧ B.blk = true) ∧ ∀ k', c.lend b = some k' → k' = k
  gl : ∀ b x, G.ls b = some x → ∃ e sz xs, look s.bx b = some (.lst e sz xs)
  inj : ∀ b b' k, G.own b = some k → G.own b' = some k → b = b'
  bel : BelowM c w
  low : c.low G.dat
  glo : ∀ g cs, c.g g = some cs → RA G (.eptr cs) (.pointer (some ⟨g, 0, none⟩))
  bas : c.base = c.w0.heap.size ∧ ∀ b k, c.lend b = some k → b ∈ c.g.ln

/-- Where code ends. -/
inductive Ex where
  | normal
  | exit (id : Nat)
  | ret
  | goto (l : Nat)

def Ex.is : Ex → Exit → Prop
  | .normal, .normal => True
  | .exit i, .exit j => j = i
  | .ret, .ret => True
  | .goto l, .goto j => j = l
  | _, _ => False

/-- The code takes each state of this form to one of that form. -/
def Runs (P : Program) (g : Gb) (c : Code) (s : St) (x : Ex) (s' : St) : Prop :=
  ∀ (cx : Cx) (a : Act) (w : World) (G : Gh), cx.P = P → cx.g = g → SR cx s a w G → c.wp P (fun e a' w' => x.is e ∧ ∃ G', SR cx s' a' w' G') a w

section
variable {P : Program} {g : Gb} {s s1 s' : St} {x : Ex}

theorem Runs.skip : Runs P g .skip s .normal s := fun cx a w G _ _ h => wp_skip ⟨trivial, G, h⟩
theorem Runs.exit (id : Nat) : Runs P g (.exit id) s (.exit id) s := fun cx a w G _ _ h => wp_exit ⟨rfl, G, h⟩
theorem Runs.ret : Runs P g .ret s .ret s := fun cx a w G _ _ h => wp_ret ⟨trivial, G, h⟩

theorem Runs.seq {c d : Code} (h1 : Runs P g c s .normal s1) (h2 : Runs P g d s1 x s') : Runs P g (.seq c d) s x s' := by
  intro cx a w G hP hg h
  refine wp_seq (Code.wp_mono ?_ (h1 cx a w G hP hg h))
  rintro e a' w' ⟨he, G', h'⟩
  cases e <;> simp only [Ex.is] at he
  exact h2 cx a' w' G' hP hg h'
theorem Runs.seqOut {c d : Code} (h1 : Runs P g c s x s') (hx : x ≠ .normal) : Runs P g (.seq c d) s x s' := by
  intro cx a w G hP hg h
  refine wp_seq (Code.wp_mono ?_ (h1 cx a w G hP hg h))
  rintro e a' w' ⟨he, G', h'⟩
  cases e <;> cases x <;> simp only [Ex.is] at he <;> first | exact absurd rfl hx | exact ⟨he, G', h'⟩ | exact ⟨trivial, G', h'⟩

theorem Runs.block {id : Nat} {c : Code} (h1 : Runs P g c s .normal s') : Runs P g (.block id c) s .normal s' := by
  intro cx a w G hP hg h
  refine wp_block (Code.wp_mono ?_ (h1 cx a w G hP hg h))
  rintro e a' w' ⟨he, G', h'⟩
  cases e <;> simp only [Ex.is] at he
  exact ⟨trivial, G', h'⟩
theorem Runs.blockOf {id : Nat} {c : Code} (h1 : Runs P g c s (.exit id) s') : Runs P g (.block id c) s .normal s' := by
  intro cx a w G hP hg h
  refine wp_block (Code.wp_mono ?_ (h1 cx a w G hP hg h))
  rintro e a' w' ⟨he, G', h'⟩
  cases e <;> simp only [Ex.is] at he
  subst he
  simp only [Exit.inBlock, if_true]
  exact ⟨trivial, G', h'⟩
theorem Runs.blockOut {id : Nat} {c : Code} (h1 : Runs P g c s x s') (hx : x ≠ .normal) (hid : x ≠ .exit id) : Runs P g (.block id c) s x s' := by
  intro cx a w G hP hg h
  refine wp_block (Code.wp_mono ?_ (h1 cx a w G hP hg h))
  rintro e a' w' ⟨he, G', h'⟩
  cases e <;> cases x <;> simp only [Ex.is] at he
  · exact absurd rfl hx
  · subst he
    rename_i j
    have : j ≠ id := fun e => hid (by rw [e])
    simp only [Exit.inBlock, if_neg this]
    exact ⟨rfl, G', h'⟩
  · exact ⟨he, G', h'⟩
  · exact ⟨trivial, G', h'⟩

def LoopsN (P : Program) (g : Gb) (c : Code) (n : Nat) (s : St) (x : Ex) (s' : St) : Prop :=
  ∀ (cx : Cx) (a : Act) (w : World) (G : Gh), cx.P = P → cx.g = g → SR cx s a w G → Code.rounds P c (fun e a' w' => x.is e ∧ ∃ G', SR cx s' a' w' G') n a w
/-- A loop ends so. -/
def Loops (P : Program) (g : Gb) (c : Code) (s : St) (x : Ex) (s' : St) : Prop := ∃ n, LoopsN P g c n s x s'
theorem Loops.out {c : Code} (h1 : Runs P g c s x s') (hx : x ≠ .normal) : Loops P g c s x s' := by
  refine ⟨1, fun cx a w G hP hg h => ?_⟩
  rw [rounds_succ]
  refine Code.wp_mono ?_ (h1 cx a w G hP hg h)
  rintro e a' w' ⟨he, G', h'⟩
  cases e <;> cases x <;> simp only [Ex.is] at he <;> first | exact absurd rfl hx | exact ⟨he, G', h'⟩ | exact ⟨trivial, G', h'⟩
theorem Loops.step {c : Code} (h1 : Runs P g c s .normal s1) (h2 : Loops P g c s1 x s') : Loops P g c s x s' := by
  obtain ⟨n, h2⟩ := h2
  refine ⟨n + 1, fun cx a w G hP hg h => ?_⟩
  rw [rounds_succ]
  refine Code.wp_mono ?_ (h1 cx a w G hP hg h)
  rintro e a' w' ⟨he, G', h'⟩
  cases e <;> simp only [Ex.is] at he
  exact h2 cx a' w' G' hP hg h'
theorem Runs.loop {c : Code} (h1 : Loops P g c s x s') : Runs P g (.loop c) s x s' := by
  obtain ⟨n, h1⟩ := h1
  exact fun cx a w G hP hg h => wp_loop_rounds n (h1 cx a w G hP hg h)

/-- One state says no more than another. -/
def SLe (s s1 : St) : Prop := ∀ (cx : Cx) (a : Act) (w : World) (G : Gh), SR cx s a w G → ∃ G', SR cx s1 a w G'
theorem SLe.refl (s : St) : SLe s s := fun _ _ _ G h => ⟨G, h⟩
theorem SLe.trans {a b c : St} (h : SLe a b) (k : SLe b c) : SLe a c := fun cx x w G hs => let ⟨G', h'⟩ := h cx x w G hs; k cx x w G' h'
theorem Runs.pre {c : Code} (h : SLe s s1) (h1 : Runs P g c s1 x s') : Runs P g c s x s' := fun cx a w G hP hg hs =>
  let ⟨G', h'⟩ := h cx a w G hs; h1 cx a w G' hP hg h'
theorem Runs.post {c : Code} (h1 : Runs P g c s x s1) (h : SLe s1 s') : Runs P g c s x s' := fun cx a w G hP hg hs =>
  Code.wp_mono (fun e a' w' ⟨he, G', h'⟩ => let ⟨G2, h2⟩ := h cx a' w' G' h'; ⟨he, G2, h2⟩) (h1 cx a w G hP hg hs)
theorem Loops.pre {c : Code} (h : SLe s s1) (h1 : Loops P g c s1 x s') : Loops P g c s x s' := by
  obtain ⟨n, h1⟩ := h1
  exact ⟨n, fun cx a w G hP hg hs => let ⟨G', h'⟩ := h cx a w G hs; h1 cx a w G' hP hg h'⟩

theorem Runs.cond {q : Operand} {c d : Code} {b : Bool} (hq : ∀ cx a w G, SR cx s a w G → a.eval q = .bool b) (h : Runs P g (if b then c else d) s x s') : Runs P g (.cond q c d) s x s' :=
  fun cx a w G hP hg hs => wp_cond (hq cx a w G hs) (h cx a w G hP hg hs)

/-- One operation takes each state of this form to one of that form. -/
def OpOk (P : Program) (g : Gb) (o : Oper) (s s1 : St) : Prop :=
  ∀ (cx : Cx) (a : Act) (w : World) (G : Gh), cx.P = P → cx.g = g → SR cx s a w G → ∀ (K : Act → World → Prop) (Q : Exit → Act → World → Prop),
    (∀ a' w' G', SR cx s1 a' w' G' → K a' w') → o.wp P a w K Q
def RunsOps (P : Program) (g : Gb) (ops : Array Oper) (l : List Oper) (s s' : St) : Prop :=
  ∀ (cx : Cx) (a : Act) (w : World) (G : Gh), cx.P = P → cx.g = g → SR cx s a w G → ∀ (Q : Exit → Act → World → Prop),
    (∀ a' w' G', SR cx s' a' w' G' → Q .normal a' w') → wpList P ops Q l a w
theorem Runs.region {id : Nat} {l : List Oper} (h : RunsOps P g l.toArray l s s') : Runs P g (.region id l.toArray false) s .normal s' :=
  fun cx a w G hP hg hs => wp_region_lit (h cx a w G hP hg hs _ fun a' w' G' h' => ⟨trivial, G', h'⟩)
theorem RunsOps.nil {ops : Array Oper} : RunsOps P g ops [] s s := fun cx a w G hP hg hs Q hQ => hQ a w G hs
theorem RunsOps.op {ops : Array Oper} {o : Oper} {l : List Oper} (hgd : o.guard = none) (h1 : OpOk P g o s s1) (h2 : RunsOps P g ops l s1 s') : RunsOps P g ops (o :: l) s s' :=
  fun cx a w G hP hg hs Q hQ => wpList_plain hgd fun K hK => h1 cx a w G hP hg hs K Q fun a' w' G' h' => hK a' w' (h2 cx a' w' G' hP hg h' Q hQ)
theorem RunsOps.pre {ops : Array Oper} {l : List Oper} (h : SLe s s1) (h2 : RunsOps P g ops l s1 s') : RunsOps P g ops l s s' :=
  fun cx a w G hP hg hs Q hQ => let ⟨G', h'⟩ := h cx a w G hs; h2 cx a w G' hP hg h' Q hQ

theorem SR.slot {cx : Cx} {a : Act} {w : World} {G : Gh} (h : SR cx s a w G) {t : Nat} {x : AV} (ht : s.get t = x) : RA G x (a.tmps.getD t undef) := ht ▸ h.tm t
theorem SR.boolSlot {cx : Cx} {a : Act} {w : World} {G : Gh} (h : SR cx s a w G) {t : Nat} {b : Bool} (ht : s.get t = .pv (.bool b)) : a.tmps.getD t undef = .bool b := by
  have h1 := h.slot ht
  generalize a.tmps.getD t undef = v at h1 ⊢
  cases h1 with
  | pv _ _ h => cases h; rfl

theorem yielded_of {ops : Array Oper} {tmps : Array Value} {j t : Nat} {b : Bool} (hj : (ops[j]?).bind (·.dst) = some t) (h : tmps.getD t undef = .bool b) : yielded ops tmps j = some b := by
  have h1 : tmps[t]? = some (.bool b) := by
    rw [Array.getD_eq_getD_getElem?] at h
    cases hx : tmps[t]? with
    | none => rw [hx] at h; simp [undef] at h
    | some v => rw [hx] at h; simpa using h
  unfold yielded
  simp [hj, h1]
theorem RunsOps.guardYes {ops : Array Oper} {o : Oper} {l : List Oper} {j t : Nat} {b want : Bool} (hgd : o.guard = some (j, want)) (hj : (ops[j]?).bind (·.dst) = some t) (ht : s.get t = .pv (.bool b)) (hb : b = want)
    (h1 : OpOk P g o s s1) (h2 : RunsOps P g ops l s1 s') : RunsOps P g ops (o :: l) s s' := by
  intro cx a w G hP hg hs Q hQ
  subst hb
  have hy := yielded_of hj (hs.boolSlot ht)
  refine wpList_step fun K hK => ?_
  rw [if_pos (by simp [Region.wanted, hgd, hy])]
  exact h1 cx a w G hP hg hs K Q fun a' w' G' h' => hK a' w' (h2 cx a' w' G' hP hg h' Q hQ)

theorem SR.put {cx : Cx} {a : Act} {w : World} {G : Gh} (h : SR cx s a w G) {d : Nat} {x : AV} {v : Value} (hd : d < s.n) (hx : RA G x v) : SR cx (s.put d x) (a.put (some d) v) w G := by
  refine ⟨fun t => ?_, by simp [Act.put, St.put, h.sz], h.df, h.dat, h.bx, h.gb, h.gl, h.inj, h.bel, h.low, h.glo, h.bas⟩
  unfold St.get St.put
  rw [look_cons]
  by_cases e : d = t
  · subst e
    rw [if_pos rfl]
    have : (a.tmps.setIfInBounds d v).getD d undef = v := by
      have hlt : d < a.tmps.size := by rw [h.sz]; exact hd
      simp [Array.getD_eq_getD_getElem?, hlt]
    show RA G x ((a.tmps.setIfInBounds d v).getD d undef)
    rw [this]
    exact hx
  · rw [if_neg e]
    have : (a.tmps.setIfInBounds d v).getD t undef = a.tmps.getD t undef := by
      simp [Array.getD_eq_getD_getElem?, Array.getElem?_setIfInBounds_ne e]
    show RA G _ ((a.tmps.setIfInBounds d v).getD t undef)
    rw [this]
    exact h.tm t
theorem SR.putO {cx : Cx} {a : Act} {w : World} {G : Gh} (h : SR cx s a w G) {d : Option Tmp} {x : AV} {v : Value} (hd : ∀ t, d = some t → t < s.n) (hx : RA G x v) : SR cx (s.putO d x) (a.put d v) w G := by
  cases d with
  | none => exact h
  | some d => exact h.put (hd d rfl) hx
/-- What a guard does not ask for: the other truth; nothing at all. -/
def offB (want : Bool) : AV → Bool
  | .pv (.bool b) => b != want
  | .tup [] => true
  | _ => false
theorem yielded_off {G : Gh} {ops : Array Oper} {tmps : Array Value} {j t : Nat} {want : Bool} {x : AV} (hj : (ops[j]?).bind (·.dst) = some t) (h : RA G x (tmps.getD t undef)) (hx : offB want x = true) : yielded ops tmps j ≠ some want := by
  unfold yielded
  rw [hj]
  simp only [Option.bind_some]
  cases hv : tmps[t]? with
  | none => simp
  | some v =>
    have e : tmps.getD t undef = v := by rw [Array.getD_eq_getD_getElem?, hv]; rfl
    rw [e] at h
    cases h with
    | pv p v h =>
      cases h <;> simp only [offB] at hx <;> first | (cases hx; done) | skip
      rename_i b
      cases b <;> cases want <;> simp at hx ⊢
    | tup cs vs hl h => simp
    | _ => simp [offB] at hx
theorem RA.undef {G : Gh} : RA G (.tup []) undef := .tup [] #[] rfl (fun i x v hx => by simp at hx)
theorem RunsOps.guardNo {ops : Array Oper} {o : Oper} {l : List Oper} {j t : Nat} {want : Bool} {x : AV} (hgd : o.guard = some (j, want)) (hj : (ops[j]?).bind (·.dst) = some t) (ht : s.get t = x) (hb : offB want x = true)
    (hd : ∀ t, o.dst = some t → t < s.n) (h2 : RunsOps P g ops l (s.putO o.dst (.tup [])) s') : RunsOps P g ops (o :: l) s s' := by
  intro cx a w G hP hg hs Q hQ
  have hy := yielded_off hj (hs.slot ht) hb
  refine wpList_step fun K hK => ?_
  rw [if_neg (by simp [Region.wanted, hgd, hy])]
  exact hK _ _ (h2 cx _ w G hP hg (hs.putO hd RA.undef) Q hQ)
end
end Go.Proofs.YtlcmnhocicehmaaDoor.Vm

/- The value machine, second part: the operations that make no memory: scalars, moves, loads, stores, fields, elements. Conditions: none. -/
namespace Go.Proofs.YtlcmnhocicehmaaDoor.Vm
open Go Go.RowKit
set_option linter.unusedVariables false
set_option linter.unusedSimpArgs false

/-- A model's computation that asks nothing but the program. -/
def now {α : Type} (P : Program) : Sem α → Option α
  | .pure a => some a
  | .program k => now P (k P)
  | _ => none
theorem now_run {α : Type} {P : Program} {a : α} : ∀ (m : Sem α) (w : World), now P m = some a → m.run P w = .ok a w
  | .pure b, w, h => by simp only [now] at h; obtain rfl := Option.some.inj h; rfl
  | .program k, w, h => by simp only [now] at h; simp only [Sem.run]; exact now_run (k P) w h
  | .load .., _, h | .store .., _, h | .new .., _, h | .shape .., _, h | .freeze .., _, h | .frozen .., _, h | .getObj .., _, h | .setObj .., _, h | .choose .., _, h | .sys .., _, h | .mark .., _, h | .halt .., _, h => by simp [now] at h

def PV.ofVal : Value → Option PV
  | .int k n => some (.int k n)
  | .bool b => some (.bool b)
  | .string s => some (.str s)
  | .float k n => some (.flt k n)
  | .slice none 0 0 => some .nil
  | .nilIface => some .nilI
  | .nilFunc => some .nilF
  | _ => none
/-- The scalar that a value is. -/
def PV.val? : PV → Option Value
  | .int k n => some (.int k n)
  | .bool b => some (.bool b)
  | .str s => some (.string s)
  | .flt k n => some (.float k n)
  | .nil => some (.slice none 0 0)
  | .nilI => some .nilIface
  | .nilF => some .nilFunc
  | .fn f => some (.func (.func f) #[] #[])
  | _ => none
theorem RP.of_val {dat : Nat → Nat → Option Value} {p : PV} {v u : Value} (h : RP dat p v) (hu : p.val? = some u) : v = u := by
  cases h <;> simp only [PV.val?] at hu <;> first | (exact Option.some.inj hu) | cases hu
theorem RP.ofVal {dat : Nat → Nat → Option Value} {p : PV} {v : Value} (h : PV.ofVal v = some p) : RP dat p v := by
  unfold PV.ofVal at h
  split at h <;> first | (obtain rfl := Option.some.inj h; constructor) | cases h
def AV.val? : AV → Option Value
  | .pv p => p.val?
  | _ => none
def vals? : List AV → Option (List Value)
  | [] => some []
  | x :: xs => match x.val?, vals? xs with
    | some v, some vs => some (v :: vs)
    | _, _ => none
/-- A flat value: a scalar, or an aggregate of scalars. -/
def AV.flat? : AV → Option Value
  | .pv p => p.val?
  | .agg cs => (vals? cs).map fun vs => .agg vs.toArray
  | .tup cs => (vals? cs).map fun vs => .tuple vs.toArray
  | _ => none
theorem RA.of_val {G : Gh} {x : AV} {v u : Value} (h : RA G x v) (hu : x.val? = some u) : v = u := by
  cases x <;> simp only [AV.val?] at hu <;> first | cases hu | skip
  cases h with
  | pv _ _ h => exact h.of_val hu
theorem vals_of {G : Gh} : ∀ (cs : List AV) (us vs : List Value), vals? cs = some us → vs.length = cs.length → (∀ (i : Nat) x v, cs[i]? = some x → vs[i]? = some v → RA G x v) → vs = us
  | [], us, vs, h, hl, _ => by
    simp only [vals?] at h
    obtain rfl := Option.some.inj h
    exact List.eq_nil_of_length_eq_zero hl
  | x :: cs, us, vs, h, hl, hr => by
    cases vs with
    | nil => simp at hl
    | cons v vs =>
      simp only [vals?] at h
      split at h
      · rename_i u us' h1 h2
        obtain rfl := Option.some.inj h
        have e1 := (hr 0 x v rfl rfl).of_val h1
        have e2 := vals_of cs us' vs h2 (by simpa using hl) (fun i y u' hy hu => hr (i + 1) y u' (by simpa using hy) (by simpa using hu))
        rw [e1, e2]
      · cases h
theorem RA.of_flat {G : Gh} {x : AV} {v u : Value} (h : RA G x v) (hu : x.flat? = some u) : v = u := by
  cases h with
  | pv p v h => exact h.of_val hu
  | agg cs vs hl h =>
    simp only [AV.flat?, Option.map_eq_some_iff] at hu
    obtain ⟨us, h1, rfl⟩ := hu
    have := vals_of cs us vs.toList h1 (by simpa using hl) (fun i x v hx hv => h i x v hx (by simpa using hv))
    rw [← this]
  | tup cs vs hl h =>
    simp only [AV.flat?, Option.map_eq_some_iff] at hu
    obtain ⟨us, h1, rfl⟩ := hu
    have := vals_of cs us vs.toList h1 (by simpa using hl) (fun i x v hx hv => h i x v hx (by simpa using hv))
    rw [← this]
  | _ => simp [AV.flat?] at hu

def pvs? : List Value → Option (List AV)
  | [] => some []
  | v :: vs => match PV.ofVal v, pvs? vs with
    | some p, some ps => some (.pv p :: ps)
    | _, _ => none
def AV.ofVal : Value → Option AV
  | .agg vs => (pvs? vs.toList).map .agg
  | v => (PV.ofVal v).map .pv
theorem pvs_ok {G : Gh} : ∀ (vs : List Value) (cs : List AV), pvs? vs = some cs → vs.length = cs.length ∧ (∀ (i : Nat) x v, cs[i]? = some x → vs[i]? = some v → RA G x v)
  | [], cs, h => by
    simp only [pvs?] at h
    obtain rfl := Option.some.inj h
    exact ⟨rfl, fun i x v hx => by simp at hx⟩
  | v :: vs, cs, h => by
    simp only [pvs?] at h
    split at h
    · rename_i p ps h1 h2
      obtain rfl := Option.some.inj h
      obtain ⟨e1, e2⟩ := pvs_ok (G := G) vs ps h2
      refine ⟨by simp [e1], fun i x u hx hu => ?_⟩
      cases i with
      | zero => simp at hx hu; subst hx; subst hu; exact .pv _ _ (RP.ofVal h1)
      | succ i => exact e2 i x u (by simpa using hx) (by simpa using hu)
    · cases h
theorem RA.ofVal {G : Gh} {x : AV} {v : Value} (h : AV.ofVal v = some x) : RA G x v := by
  cases v with
  | agg vs =>
    simp only [AV.ofVal, Option.map_eq_some_iff] at h
    obtain ⟨cs, h1, rfl⟩ := h
    obtain ⟨e1, e2⟩ := pvs_ok (G := G) _ _ h1
    exact .agg cs vs (by simpa using e1) (fun i x v hx hv => e2 i x v hx (by simpa using hv))
  | _ =>
    simp only [AV.ofVal, Option.map_eq_some_iff] at h
    obtain ⟨p, h1, rfl⟩ := h
    exact .pv _ _ (RP.ofVal h1)

/-- The value of an operand. -/
def St.ev (s : St) (g : Gb) : Operand → AV
  | .tmp t => s.get t
  | .const v => (AV.ofVal v).getD .any
  | .global k => match g k with | some cs => .eptr cs | none => .any
  | .func f => .clo f []

section
variable {P : Program} {g : Gb} {s s1 s' : St} {cx : Cx} {a : Act} {w : World} {G : Gh}
theorem SR.ev (h : SR cx s a w G) (hg : cx.g = g) (x : Operand) : RA G (s.ev g x) (a.eval x) := by
  cases x with
  | tmp t => exact h.tm t
  | const v =>
    simp only [St.ev, Act.eval]
    cases hv : AV.ofVal v with
    | none => exact .any _
    | some y => exact RA.ofVal hv
  | global k =>
    simp only [St.ev, Act.eval]
    cases hk : g k with
    | none => exact .any _
    | some cs => exact h.glo k cs (by rw [hg]; exact hk)
  | func f => exact .clo f [] #[] rfl (fun i x v hx => by simp at hx)

/-- An operation that gives a value and leaves the world. -/
theorem OpOk.val {o : Oper} {x : AV} (hd : ∀ t, o.dst = some t → t < s.n)
    (h : ∀ (cx : Cx) (a : Act) (w : World) (G : Gh), cx.P = P → cx.g = g → SR cx s a w G → ∃ v, (execOp a.eval o).run P w = .ok (.value v) w ∧ RA G x v) : OpOk P g o s (s.putO o.dst x) := by
  intro cx a w G hP hg hs K Q hK
  obtain ⟨v, h1, h2⟩ := h cx a w G hP hg hs
  unfold Oper.wp
  rw [h1]
  exact hK _ _ G (hs.putO hd h2)

def St.fl (s : St) (g : Gb) (x : Operand) : Value := ((s.ev g x).flat?).getD undef
def flats (s : St) (g : Gb) : List Operand → Bool
  | [] => true
  | x :: xs => (s.ev g x).flat?.isSome && flats s g xs
theorem flats_mem : ∀ (l : List Operand), flats s g l = true → ∀ x ∈ l, ∃ u, (s.ev g x).flat? = some u
  | [], _, x, hx => by simp at hx
  | y :: l, h, x, hx => by
    simp only [flats, Bool.and_eq_true] at h
    cases hx with
    | head => exact Option.isSome_iff_exists.1 h.1
    | tail _ hx => exact flats_mem l h.2 x hx
/-- An operation on flat values that asks nothing of memory. -/
theorem OpOk.now {dst : Option Tmp} {op : Op} {ty : TypeId} {pos : String} {after : Array Edge} {gd : Option (Nat × Bool)} {v : Value} {x : AV} (hsel : ∀ cs b, op ≠ .select cs b) (hl : flats s g op.operands.toList = true)
    (hn : Vm.now P (execOp (s.fl g) ⟨dst, op, ty, pos, after, gd⟩) = some (.value v)) (hx : AV.ofVal v = some x) (hd : ∀ t, dst = some t → t < s.n) :
    OpOk P g ⟨dst, op, ty, pos, after, gd⟩ s (s.putO dst x) := by
  refine OpOk.val (o := ⟨dst, op, ty, pos, after, gd⟩) hd (fun cx a w G hP hg hs => ⟨v, ?_, RA.ofVal hx⟩)
  have he : execOp a.eval ⟨dst, op, ty, pos, after, gd⟩ = execOp (s.fl g) ⟨dst, op, ty, pos, after, gd⟩ := execOp_congr _ hsel (fun y hy => by
    obtain ⟨u, hu⟩ := flats_mem op.operands.toList hl y (by simpa using hy)
    rw [(hs.ev hg y).of_flat hu]
    simp [St.fl, hu])
  rw [he]
  exact now_run _ w hn

theorem OpOk.move {dst : Option Tmp} {y : Operand} {ty : TypeId} {pos : String} {after : Array Edge} {gd : Option (Nat × Bool)} {x : AV} (hx : s.ev g y = x) (hd : ∀ t, dst = some t → t < s.n) :
    OpOk P g ⟨dst, .move y, ty, pos, after, gd⟩ s (s.putO dst x) :=
  OpOk.val (o := ⟨dst, .move y, ty, pos, after, gd⟩) hd fun cx a w G hP hg hs => ⟨a.eval y, rfl, hx ▸ hs.ev hg y⟩
theorem OpOk.assign {dst : Option Tmp} {y : Operand} {ty : TypeId} {pos : String} {after : Array Edge} {gd : Option (Nat × Bool)} {x : AV} (hx : s.ev g y = x) (hd : ∀ t, dst = some t → t < s.n) :
    OpOk P g ⟨dst, .assign y, ty, pos, after, gd⟩ s (s.putO dst x) :=
  OpOk.val (o := ⟨dst, .assign y, ty, pos, after, gd⟩) hd fun cx a w G hP hg hs => ⟨a.eval y, rfl, hx ▸ hs.ev hg y⟩
theorem RA.bool {b : Bool} {v : Value} (h : RA G (.pv (.bool b)) v) : v = .bool b := h.of_val rfl
theorem RA.int {k : IntKind} {n : Int} {v : Value} (h : RA G (.pv (.int k n)) v) : v = .int k n := h.of_val rfl
theorem RA.str {b : ByteArray} {v : Value} (h : RA G (.pv (.str b)) v) : v = .string b := h.of_val rfl
theorem OpOk.pick {dst : Option Tmp} {c y z : Operand} {b : Bool} {ty : TypeId} {pos : String} {after : Array Edge} {gd : Option (Nat × Bool)} {x : AV} (hc : s.ev g c = .pv (.bool b)) (hx : (bif b then s.ev g y else s.ev g z) = x) (hd : ∀ t, dst = some t → t < s.n) :
    OpOk P g ⟨dst, .pick c y z, ty, pos, after, gd⟩ s (s.putO dst x) :=
  OpOk.val (o := ⟨dst, .pick c y z, ty, pos, after, gd⟩) hd fun cx a w G hP hg hs => by
    have h1 := hs.ev hg c
    rw [hc] at h1
    refine ⟨if b then a.eval y else a.eval z, ?_, ?_⟩
    · unfold execOp
      simp [RA.bool h1, asBool, Sem.run_bind, Result.andThen]
    · subst hx
      cases b
      · exact hs.ev hg z
      · exact hs.ev hg y
theorem Runs.condT {q : Operand} {c d : Code} {b : Bool} {x : Ex} (hq : s.ev g q = .pv (.bool b)) (hb : b = true) (h : Runs P g c s x s') : Runs P g (.cond q c d) s x s' := by
  intro cx a w G hP hg hs
  have h1 := hs.ev hg q
  rw [hq] at h1
  exact wp_cond_true (by rw [RA.bool h1, hb]) (h cx a w G hP hg hs)
theorem Runs.condF {q : Operand} {c d : Code} {b : Bool} {x : Ex} (hq : s.ev g q = .pv (.bool b)) (hb : b = false) (h : Runs P g d s x s') : Runs P g (.cond q c d) s x s' := by
  intro cx a w G hP hg hs
  have h1 := hs.ev hg q
  rw [hq] at h1
  exact wp_cond_false (by rw [RA.bool h1, hb]) (h cx a w G hP hg hs)

/-- What a type is. -/
inductive TK where
  | str
  | arr (n e : Nat)
  | slc (e : Nat)
  | int (k : IntKind)
  | bool
  | strg
  | flt
  | ptr (e : Nat)
  | oth
def kOf : TypeDesc → TK
  | .struct _ => .str
  | .array n e => .arr n e
  | .slice e => .slc e
  | .int k => .int k
  | .bool => .bool
  | .string => .strg
  | .float _ => .flt
  | .pointer e => .ptr e
  | _ => .oth
structure TI where
  desc : TK
  size : Nat
  bytes : Nat
  zero : List PV
def pvOfs : List Value → Option (List PV)
  | [] => some []
  | v :: vs => match PV.ofVal v, pvOfs vs with
    | some p, some ps => some (p :: ps)
    | _, _ => none
def tiOf (P : Program) (t : TypeId) : Option TI :=
  match P.info? t, P.underlying t with
  | some i, some d => match i.zero with
    | some z => (pvOfs z.cells.toList).map fun zs => ⟨kOf d, i.size, i.bytes, zs⟩
    | none => none
  | _, _ => none
def aggD : TK → Bool
  | .str | .arr _ _ => true
  | _ => false
theorem tiOf_ok {t : TypeId} {i : TI} (h : tiOf P t = some i) : ∃ inf z d, P.info? t = some inf ∧ P.underlying t = some d ∧ kOf d = i.desc ∧ inf.size = i.size ∧ inf.bytes = i.bytes ∧ inf.zero = some z ∧ pvOfs z.cells.toList = some i.zero := by
  unfold tiOf at h
  split at h
  · rename_i inf d h1 h2
    split at h
    · rename_i z hz
      simp only [Option.map_eq_some_iff] at h
      obtain ⟨zs, h3, rfl⟩ := h
      exact ⟨inf, z, d, h1, h2, rfl, rfl, rfl, hz, h3⟩
    · cases h
  · cases h
theorem tiOf_agg {t : TypeId} {i : TI} (h : tiOf P t = some i) (w : World) : (isAgg t).run P w = .ok (aggD i.desc) w := by
  obtain ⟨inf, z, d, h1, h2, h3, _⟩ := tiOf_ok h
  unfold isAgg
  rw [Sem.run_bind, run_underlying h2 w, ← h3]
  cases d <;> simp [aggD, kOf, Result.andThen]
theorem tiOf_size {t : TypeId} {i : TI} (h : tiOf P t = some i) (w : World) : (sizeOf t).run P w = .ok i.size w := by
  obtain ⟨inf, z, d, h1, h2, h3, h4, _⟩ := tiOf_ok h
  simp [sizeOf, typeInfo, h1, h4]
theorem tiOf_und {t : TypeId} {i : TI} (h : tiOf P t = some i) : ∃ d, P.underlying t = some d ∧ kOf d = i.desc := by
  obtain ⟨inf, z, d, h1, h2, h3, _⟩ := tiOf_ok h
  exact ⟨d, h2, h3⟩
theorem tiOf_slc {t : TypeId} {i : TI} {e : Nat} (h : tiOf P t = some i) (hk : i.desc = .slc e) : P.underlying t = some (.slice e) := by
  obtain ⟨d, h1, h2⟩ := tiOf_und h
  rw [hk] at h2
  cases d <;> simp [kOf] at h2
  rw [h1, h2]
theorem tiOf_arr {t : TypeId} {i : TI} {n e : Nat} (h : tiOf P t = some i) (hk : i.desc = .arr n e) : P.underlying t = some (.array n e) := by
  obtain ⟨d, h1, h2⟩ := tiOf_und h
  rw [hk] at h2
  cases d <;> simp [kOf] at h2
  rw [h1, h2.1, h2.2]
theorem tiOf_strg {t : TypeId} {i : TI} (h : tiOf P t = some i) (hk : i.desc = .strg) : P.underlying t = some .string := by
  obtain ⟨d, h1, h2⟩ := tiOf_und h
  rw [hk] at h2
  cases d <;> simp [kOf] at h2
  exact h1
theorem tiOf_int {t : TypeId} {i : TI} {k : IntKind} (h : tiOf P t = some i) (hk : i.desc = .int k) : P.underlying t = some (.int k) := by
  obtain ⟨d, h1, h2⟩ := tiOf_und h
  rw [hk] at h2
  cases d <;> simp [kOf] at h2
  rw [h1, h2]

/-- The cells that a pointer leads to, from its place on. -/
def St.cellsAt (s : St) : AV → Option (List AV)
  | .ptr b o => match look s.bx b with
    | some (.var cs) => some (cs.drop o)
    | _ => none
  | .eptr cs => some (cs.map .pv)
  | _ => none
def loadAV (i : TI) (cs : List AV) : Option AV :=
  bif aggD i.desc then (bif Nat.ble i.size cs.length then some (.agg (cs.take i.size)) else none) else cs.head?

theorem add_plain0 (k o j : Nat) : (⟨k, o, none⟩ : Addr).add j = ⟨k, o + j, none⟩ := by
  unfold Addr.add
  split
  · rename_i h; subst h; rfl
  · rfl
theorem add_spot (a : Addr) (h : a.spot = none) (j : Nat) : a.add j = ⟨a.block, a.off + j, none⟩ := by
  obtain ⟨b, o, sp⟩ := a
  simp only at h
  subst h
  exact add_plain0 b o j
/-- What stands in memory where a pointer leads. -/
theorem SR.cells (h : SR cx s a w G) {x : AV} {v : Value} {cs : List AV} (hx : RA G x v) (hc : s.cellsAt x = some cs) :
    ∃ ad, v = .pointer (some ad) ∧ ad.spot = none ∧ ∀ (j : Nat) y, cs[j]? = some y → ∃ u, w.cell? (ad.add j) = some u ∧ RA G y u := by
  cases hx with
  | ptr b o k hb =>
    refine ⟨⟨k, o, none⟩, rfl, rfl, fun j y hy => ?_⟩
    simp only [St.cellsAt] at hc
    split at hc
    · rename_i cs0 hl
      obtain rfl := Option.some.inj hc
      obtain ⟨k', ty, vs, h1, h2, h3, h4, h5, h6⟩ := h.bx b _ hl
      rw [hb] at h1
      obtain rfl := Option.some.inj h1
      rw [add_plain0, cell_of_row w k (o + j) vs ty (0, 0) h3]
      have hlt : o + j < cs0.length := by
        have := (List.getElem?_eq_some_iff.1 hy).1
        rw [List.length_drop] at this
        omega
      rw [List.getElem?_drop] at hy
      exact ⟨vs[o + j]'(by omega), by simp [h4, hlt], h5 (o + j) y _ hy (by simp [h4, hlt])⟩
    · cases hc
  | eptr cs0 ad hs h1 =>
    refine ⟨ad, rfl, hs, fun j y hy => ?_⟩
    simp only [St.cellsAt] at hc
    obtain rfl := Option.some.inj hc
    rw [List.getElem?_map, Option.map_eq_some_iff] at hy
    obtain ⟨p, hp, rfl⟩ := hy
    obtain ⟨u, h2, h3⟩ := h1 j p hp
    rw [add_spot ad hs]
    exact ⟨u, h.dat _ _ _ h2, .pv _ _ h3⟩
  | _ => simp [St.cellsAt] at hc

theorem OpOk.load {dst : Option Tmp} {t : TypeId} {y : Operand} {ty : TypeId} {pos : String} {after : Array Edge} {gd : Option (Nat × Bool)} {i : TI} {z x : AV} {cs : List AV} (ht : tiOf P t = some i) (hy : s.ev g y = z)
    (hc : s.cellsAt z = some cs) (hx : loadAV i cs = some x) (hd : ∀ t, dst = some t → t < s.n) : OpOk P g ⟨dst, .load t y, ty, pos, after, gd⟩ s (s.putO dst x) := by
  refine OpOk.val (o := ⟨dst, .load t y, ty, pos, after, gd⟩) hd (fun cx a w G hP hg hs => ?_)
  obtain ⟨ad, e1, e2, e3⟩ := hs.cells (hs.ev hg y) (by rw [hy]; exact hc)
  have hrun : ∀ r, (loadVar t ad).run P w = .ok r w → (execOp a.eval ⟨dst, .load t y, ty, pos, after, gd⟩).run P w = .ok (.value r) w := fun r hr => by
    unfold execOp
    simp only [e1, Instr.loadAt, Instr.sureAddr, Sem.run_bind, Sem.run_pure, Result.andThen_ok, hr]
  unfold loadAV at hx
  cases hag : aggD i.desc with
  | true =>
    rw [hag] at hx
    simp only [cond_true] at hx
    cases hb : Nat.ble i.size cs.length with
    | false => rw [hb] at hx; cases hx
    | true =>
      rw [hb] at hx
      simp only [cond_true] at hx
      obtain rfl := Option.some.inj hx
      have hle := Nat.le_of_ble_eq_true hb
      have hpick : ∀ j, j < i.size → ∃ u, w.cell? (ad.add j) = some u ∧ ∀ y, cs[j]? = some y → RA G y u := fun j hj => by
        obtain ⟨u, h1, h2⟩ := e3 j (cs[j]'(by omega)) (by simp [show j < cs.length by omega])
        exact ⟨u, h1, fun y hy => by
          have : cs[j]'(by omega) = y := (List.getElem?_eq_some_iff.1 hy).2
          exact this ▸ h2⟩
      have hex : ∃ f : Nat → Value, ∀ j, j < i.size → w.cell? (ad.add j) = some (f j) ∧ ∀ y, cs[j]? = some y → RA G y (f j) := by
        refine ⟨fun j => if hj : j < i.size then Classical.choose (hpick j hj) else undef, fun j hj => ?_⟩
        simp only [dif_pos hj]
        exact Classical.choose_spec (hpick j hj)
      obtain ⟨f, hf⟩ := hex
      have hl := run_loadCells (P := P) w ad i.size f (fun j hj => (hf j hj).1)
      refine ⟨.agg ((List.range i.size).map f).toArray, hrun _ ?_, ?_⟩
      · simp only [loadVar, Sem.run_bind, tiOf_agg ht w, hag, Result.andThen_ok, if_true, tiOf_size ht w, hl, Sem.run_pure]
      · refine .agg _ _ (by simp; omega) (fun j y u hy hu => ?_)
        have hj : j < i.size := by
          have := (List.getElem?_eq_some_iff.1 hy).1
          rw [List.length_take] at this
          omega
        have hu' : u = f j := by
          simp [hj] at hu
          exact hu.symm
        rw [hu']
        rw [List.getElem?_take, if_pos hj] at hy
        exact (hf j hj).2 y hy
  | false =>
    rw [hag] at hx
    simp only [cond_false] at hx
    obtain ⟨u, h1, h2⟩ := e3 0 x (by rw [← List.head?_eq_getElem?]; exact hx)
    have h0 : ad.add 0 = ad := rfl
    rw [h0] at h1
    refine ⟨u, hrun _ ?_, h2⟩
    have hl : (Go.load ad).run P w = .ok u w := by simp [Go.load, Sem.run, h1]
    simp only [loadVar, Sem.run_bind, tiOf_agg ht w, hag, Result.andThen_ok, Bool.false_eq_true, if_false, hl]
end
end Go.Proofs.YtlcmnhocicehmaaDoor.Vm

/- The value machine, third part: variables made and written, slices made and grown. Conditions: none. -/
namespace Go.Proofs.YtlcmnhocicehmaaDoor.Vm
open Go Go.RowKit
set_option linter.unusedVariables false
set_option linter.unusedSimpArgs false

theorem ownsRow_congr {w w' : World} {base e size n : Nat} {v : Value} {xs : List Value} (h : w.ownsRow base e size v n xs) (hb : ∀ k, v.ownBlock = some k → w'.heap[k]? = w.heap[k]?) : w'.ownsRow base e size v n xs := by
  refine ⟨h.1, ?_⟩
  rcases h.2 with hn | ⟨g, cap, cur, rfl, h1, h2, rest⟩
  · exact .inl hn
  · exact .inr ⟨g, cap, cur, rfl, h1, by rw [hb g rfl]; exact h2, rest⟩

theorem Cx.owns.congr {c : Cx} {w w' : World} {e sz n : Nat} {v : Value} {xs : List Value} (h : c.owns w e sz v n xs) (hb : ∀ k, v.ownBlock = some k → w'.heap[k]? = w.heap[k]?) : c.owns w' e sz v n xs := ⟨ownsRow_congr h.1 hb, h.2⟩
theorem BoxOk.keep {c : Cx} {G G' : Gh} {w w' : World} {b : Nat} {B : Box} (h : BoxOk c G w b B) (hle : G.Le G') (hls : G'.ls b = G.ls b)
    (hk : ∀ k, G.blk b = some k → w'.heap[k]? = w.heap[k]? ∧ ∀ o, G.dat k o = none → G'.dat k o = none)
    (hl : ∀ x k, G.ls b = some x → x.2.2.ownBlock = some k → w'.heap[k]? = w.heap[k]? ∧ ∀ o, G.dat k o = none → G'.dat k o = none) : BoxOk c G' w' b B := by
  cases B with
  | var cs =>
    obtain ⟨k, ty, vs, h1, h2, h3, h4, h5, h6⟩ := h
    obtain ⟨e1, e2⟩ := hk k h1
    exact ⟨k, ty, vs, hle.blk b k h1, h2, by rw [e1]; exact h3, h4, fun i x v hx hv => (h5 i x v hx hv).mono hle, fun o => e2 o (h6 o)⟩
  | lst e sz xs =>
    obtain ⟨hh, us, h1, h2, h3, h4, h5⟩ := h
    exact ⟨hh, us, by rw [hls]; exact h1, h2, h3.congr (fun k hk' => (hl _ k h1 hk').1), h4.mono hle.dat, fun k hk' o ho => (hl _ k h1 hk').2 o (h5 k hk' o ho)⟩
  | iter s pos =>
    obtain ⟨k, h1, h2, h3, h4⟩ := h
    obtain ⟨e1, e2⟩ := hk k h1
    exact ⟨k, hle.blk b k h1, h2, by rw [e1]; exact h3, fun o => e2 o (h4 o)⟩

section
variable {P : Program} {g : Gb} {s s1 s' : St} {cx : Cx} {a : Act} {w : World} {G : Gh}

theorem SR.blk_none (h : SR cx s a w G) {b : Nat} (hb : look s.bx b = none) : G.blk b = none := by
  cases hk : G.blk b with
  | none => rfl
  | some k => obtain ⟨⟨cs, h1, _⟩, _⟩ := h.gb b k hk; rw [hb] at h1; cases h1
theorem SR.ls_none (h : SR cx s a w G) {b : Nat} (hb : look s.bx b = none) : G.ls b = none := by
  cases hk : G.ls b with
  | none => rfl
  | some k => obtain ⟨e, sz, xs, h1⟩ := h.gl b k hk; rw [hb] at h1; cases h1
theorem SR.lst_blk (h : SR cx s a w G) {b e sz : Nat} {xs : List PV} (hb : look s.bx b = some (.lst e sz xs)) : G.blk b = none := by
  cases hk : G.blk b with
  | none => rfl
  | some k => obtain ⟨⟨cs, h1, h2⟩, _⟩ := h.gb b k hk; rw [hb] at h1; obtain rfl := Option.some.inj h1; cases h2
theorem SR.own_var (h : SR cx s a w G) {b k : Nat} (hk : G.blk b = some k) : G.own b = some k := by simp [Gh.own, hk]
theorem SR.own_lst (h : SR cx s a w G) {b : Nat} {x : Nat × List PV × Value} (hx : G.ls b = some x) : G.own b = x.2.2.ownBlock := by
  obtain ⟨e, sz, xs, hb⟩ := h.gl b x hx
  simp [Gh.own, h.lst_blk hb, hx]
/-- What a box owns lies in the call's own memory, and is there. -/
theorem SR.own_lt (h : SR cx s a w G) {b k : Nat} (hk : G.own b = some k) : cx.mine k ∧ k < w.heap.size := by
  unfold Gh.own at hk
  split at hk
  · rename_i k' h1
    obtain rfl := Option.some.inj hk
    obtain ⟨⟨B, h2, hbk⟩, _⟩ := h.gb b k' h1
    cases B with
    | var cs =>
      obtain ⟨k2, ty, vs, h3, h4, h5, _⟩ := h.bx b _ h2
      rw [h1] at h3
      obtain rfl := Option.some.inj h3
      exact ⟨h4, (Array.getElem?_eq_some_iff.1 h5).1⟩
    | iter s pos =>
      obtain ⟨k2, h3, h4, h5, _⟩ := h.bx b _ h2
      rw [h1] at h3
      obtain rfl := Option.some.inj h3
      exact ⟨h4, (Array.getElem?_eq_some_iff.1 h5).1⟩
    | lst e sz xs => cases hbk
  · rename_i h1
    rw [Option.bind_eq_some_iff] at hk
    obtain ⟨x, h2, h3⟩ := hk
    obtain ⟨e, sz, xs, h4⟩ := h.gl b x h2
    obtain ⟨hh, us, h5, h6, h7, _⟩ := h.bx b _ h4
    rw [h2] at h5
    obtain rfl := Option.some.inj h5
    exact ⟨h7.2 k h3, (h7.1.lt k h3).2⟩
theorem SR.basele (h : SR cx s a w G) : cx.base ≤ w.heap.size := by rw [h.bas.1]; exact h.bel.size
theorem SR.notLent (h : SR cx s a w G) (hg : cx.g = g) {b : Nat} (hb : inN g.ln b = false) : cx.lend b = none := by
  cases hl : cx.lend b with
  | none => rfl
  | some k => have := inN_ok (h.bas.2 b k hl); rw [hg, hb] at this; cases this
theorem SR.dat_lt (h : SR cx s a w G) {b o : Nat} {v : Value} (hv : G.dat b o = some v) : b < w.heap.size :=
  World.block_lt_of_cell? w ⟨b, o, none⟩ (h.dat b o v hv)

/-- A new variable. -/
theorem SR.newVar (h : SR cx s a w G) {b : Nat} (hb : look s.bx b = none) (hnl : cx.lend b = none) (cs : List AV) (vs : Array Value) (ty : TypeId) (hl : cs.length ≤ vs.size)
    (hv : ∀ (i : Nat) x v, cs[i]? = some x → vs[i]? = some v → RA G x v) :
    ∃ G', G.Le G' ∧ G'.blk b = some w.heap.size ∧ SR cx (s.box b (.var cs)) a (w.alloc (.cells vs ty)) G' := by
  have hbn := h.blk_none hb
  have hln := h.ls_none hb
  have hle : G.Le { G with blk := fun i => if i = b then some w.heap.size else G.blk i } :=
    ⟨fun _ _ _ h => h, fun i k hi => by
      by_cases e : i = b
      · subst e; rw [hbn] at hi; cases hi
      · simpa [e] using hi, fun i sz xs hh hi => ⟨[], hh, by simpa using hi, fun _ => rfl⟩⟩
  have hown : ∀ i k, Gh.own { G with blk := fun i => if i = b then some w.heap.size else G.blk i } i = some k → (i = b ∧ k = w.heap.size) ∨ (i ≠ b ∧ G.own i = some k) := by
    intro i k hi
    by_cases e : i = b
    · subst e
      simp [Gh.own] at hi
      exact .inl ⟨rfl, hi.symm⟩
    · simp [Gh.own, e] at hi
      exact .inr ⟨e, by simpa [Gh.own] using hi⟩
  have hold : ∀ k, k < w.heap.size → (w.alloc (.cells vs ty)).heap[k]? = w.heap[k]? := fun k hk => heap_alloc_old w _ k hk
  refine ⟨_, hle, by simp, ⟨fun t => (h.tm t).mono hle, h.sz, h.df, fun b' o v hv' => ?_, fun i B hi => ?_, fun i k hi => ?_, fun i x hi => ?_, fun i i' k hi hi' => ?_, h.bel.alloc h.basele _, h.low, fun gg cs' hg => (h.glo gg cs' hg).mono hle, h.bas⟩⟩
  · rw [← h.dat b' o v hv']
    exact World.cell?_of_block (w := w) (hold b' (h.dat_lt hv'))
  · simp only [St.box, look_cons] at hi
    by_cases e : b = i
    · subst e
      rw [if_pos rfl] at hi
      obtain rfl := Option.some.inj hi
      refine ⟨w.heap.size, ty, vs, by simp, .inl h.basele, heap_alloc_new w _, hl, fun i x v hx hv' => (hv i x v hx hv').mono hle, fun o => ?_⟩
      cases hd : G.dat w.heap.size o with
      | none => rfl
      | some v => exact absurd (h.dat_lt hd) (Nat.lt_irrefl _)
    · rw [if_neg e] at hi
      refine (h.bx i B hi).keep hle rfl (fun k hk => ⟨hold k (h.own_lt (h.own_var hk)).2, fun o ho => ho⟩) (fun x k hx hk => ⟨hold k (h.own_lt ((h.own_lst hx).trans hk)).2, fun o ho => ho⟩)
  · simp only [St.box, look_cons]
    by_cases e : b = i
    · subst e; exact ⟨⟨.var cs, by simp, rfl⟩, fun k' hk' => by rw [hnl] at hk'; cases hk'⟩
    · have : i ≠ b := fun x => e x.symm
      simp only [this, if_false] at hi
      rw [if_neg e]
      exact h.gb i k hi
  · simp only [St.box, look_cons]
    by_cases e : b = i
    · subst e; rw [hln] at hi; cases hi
    · rw [if_neg e]; exact h.gl i x hi
  · rcases hown i k hi with ⟨e1, e2⟩ | ⟨e1, e2⟩ <;> rcases hown i' k hi' with ⟨e3, e4⟩ | ⟨e3, e4⟩
    · rw [e1, e3]
    · have := (h.own_lt e4).2; omega
    · have := (h.own_lt e2).2; omega
    · exact h.inj i i' k e2 e4

/-- A variable written. -/
theorem SR.setVar (h : SR cx s a w G) {b k : Nat} {ty : TypeId} {cs cs' : List AV} {vs vs' : Array Value} (hb : look s.bx b = some (.var cs)) (hk : G.blk b = some k) (hh : w.heap[k]? = some (.cells vs ty (0, 0)))
    (hl : cs'.length ≤ vs'.size) (hv : ∀ (i : Nat) x v, cs'[i]? = some x → vs'[i]? = some v → RA G x v) : SR cx (s.box b (.var cs')) a (w.setRow k vs') G := by
  have hlt := h.own_lt (h.own_var hk)
  have hoth : ∀ j, j ≠ k → (w.setRow k vs').heap[j]? = w.heap[j]? := fun j hj => setRow_other w k j vs' hj
  have hdk : ∀ o, G.dat k o = none := by
    obtain ⟨k', _, _, h1, _, _, _, _, h6⟩ := h.bx b _ hb
    rw [hk] at h1
    obtain rfl := Option.some.inj h1
    exact h6
  refine ⟨h.tm, h.sz, h.df, fun b' o v hv' => ?_, fun i B hi => ?_, fun i k' hi => ?_, fun i x hi => ?_, h.inj, ?_, h.low, h.glo, h.bas⟩
  · rw [← h.dat b' o v hv']
    exact World.cell?_of_block (w := w) (hoth b' (fun e => by subst e; rw [hdk o] at hv'; cases hv'))
  · simp only [St.box, look_cons] at hi
    by_cases e : b = i
    · subst e
      rw [if_pos rfl] at hi
      obtain rfl := Option.some.inj hi
      exact ⟨k, ty, vs', hk, hlt.1, setRow_heap w k vs vs' ty _ hh, hl, hv, hdk⟩
    · rw [if_neg e] at hi
      refine (h.bx i B hi).keep (Gh.Le.refl G) rfl (fun k' hk' => ⟨hoth k' (fun e2 => e ?_), fun o ho => ho⟩) (fun x k' hx hk' => ⟨hoth k' (fun e2 => e ?_), fun o ho => ho⟩)
      · subst e2; exact h.inj b i k' (h.own_var hk) (h.own_var hk')
      · subst e2; exact h.inj b i k' (h.own_var hk) ((h.own_lst hx).trans hk')
  · simp only [St.box, look_cons]
    by_cases e : b = i
    · subst e; exact ⟨⟨.var cs', by simp, rfl⟩, (h.gb b k' hi).2⟩
    · rw [if_neg e]; exact h.gb i k' hi
  · simp only [St.box, look_cons]
    by_cases e : b = i
    · subst e
      obtain ⟨e1, sz, xs, h1⟩ := h.gl b x hi
      rw [hb] at h1; cases h1
    · rw [if_neg e]; exact h.gl i x hi
  · exact ⟨h.bel.os, h.bel.tape, h.bel.output, by simp [World.setRow, h.bel.size], fun j hj hm => (hoth j (fun e => by
      subst e
      rcases hlt.1 with h1 | h1
      · exact absurd hj (Nat.not_lt.2 h1)
      · exact hm h1)).trans (h.bel.block j hj hm)⟩

def AV.one : AV → Bool
  | .pv p => p.one
  | .gl _ _ | .ptr _ _ | .vrow _ _ _ | .eptr _ | .clo _ _ => true
  | _ => false
def ones : List AV → Bool
  | [] => true
  | x :: xs => x.one && ones xs
theorem ones_mem : ∀ {l : List AV}, ones l = true → ∀ x ∈ l, x.one = true
  | [], _, x, h => by simp at h
  | y :: l, h, x, hx => by
    simp only [ones, Bool.and_eq_true] at h
    cases hx with
    | head => exact h.1
    | tail _ hx => exact ones_mem h.2 x hx
/-- The cells of a value. -/
def AV.cells? : AV → Option (List AV)
  | .agg cs => bif ones cs then some cs else none
  | .pv (.agg cs) => some (cs.map .pv)
  | .any | .tup _ => none
  | x => some [x]
theorem RP.one {dat : Nat → Nat → Option Value} {p : PV} {v : Value} (h : RP dat p v) (h1 : p.one = true) : v.oneCell' = true ∧ v.cells = #[v] := by
  cases h <;> first | exact ⟨rfl, rfl⟩ | cases h1
theorem RA.one {x : AV} {v : Value} (h : RA G x v) (h1 : x.one = true) : v.oneCell' = true ∧ v.cells = #[v] := by
  cases h with
  | pv p v h => exact h.one h1
  | gl b n v sz xs hh hb hn hp hv => exact hp.one rfl
  | ptr | vrow | eptr | clo => exact ⟨rfl, rfl⟩
  | _ => cases h1
theorem RA.cells {x : AV} {v : Value} {cs : List AV} (h : RA G x v) (hc : x.cells? = some cs) : v.cells.size = cs.length ∧ (∀ (i : Nat) y u, cs[i]? = some y → v.cells[i]? = some u → RA G y u) ∧ ∀ u ∈ v.cells.toList, u.oneCell' = true := by
  have single : ∀ y, x = y → y.one = true → cs = [y] → v.cells.size = cs.length ∧ (∀ (i : Nat) y u, cs[i]? = some y → v.cells[i]? = some u → RA G y u) ∧ ∀ u ∈ v.cells.toList, u.oneCell' = true := by
    rintro y rfl h1 rfl
    obtain ⟨e1, e2⟩ := h.one h1
    rw [e2]
    refine ⟨rfl, fun i y u hy hu => ?_, fun u hu => ?_⟩
    · cases i with
      | zero => simp at hy hu; subst hy; subst hu; exact h
      | succ i => simp at hy
    · simp at hu; subst hu; exact e1
  cases x with
  | any | tup => cases hc
  | agg xs =>
    simp only [AV.cells?] at hc
    cases ho : ones xs with
    | false => rw [ho] at hc; cases hc
    | true =>
      rw [ho] at hc
      obtain rfl := Option.some.inj hc
      cases h with
      | agg _ vs hl h =>
        refine ⟨hl, h, fun u hu => ?_⟩
        obtain ⟨i, hi, rfl⟩ := List.mem_iff_getElem.1 hu
        simp only [Array.length_toList, Value.cells] at hi
        have hlt : i < xs.length := by omega
        exact ((h i xs[i] vs[i] (by simp [hlt]) (by simp [hi])).one (ones_mem ho _ (List.getElem_mem hlt))).1
  | pv p =>
    cases p with
    | agg ps =>
      simp only [AV.cells?] at hc
      obtain rfl := Option.some.inj hc
      cases h with
      | pv _ _ h =>
        cases h with
        | agg _ vs hl h1 h =>
          refine ⟨by simp [Value.cells, hl], fun i y u hy hu => ?_, fun u hu => ?_⟩
          · rw [List.getElem?_map, Option.map_eq_some_iff] at hy
            obtain ⟨q, hq, rfl⟩ := hy
            exact .pv _ _ (h i q u hq hu)
          · obtain ⟨i, hi, rfl⟩ := List.mem_iff_getElem.1 hu
            simp only [Array.length_toList, Value.cells] at hi
            have hlt : i < ps.length := by omega
            exact ((h i ps[i] vs[i] (by simp [hlt]) (by simp [hi])).one (h1 _ (List.getElem_mem hlt))).1
    | _ => simp only [AV.cells?] at hc; exact single _ rfl rfl (Option.some.inj hc).symm
  | gl | ptr | vrow | eptr | clo => simp only [AV.cells?] at hc; exact single _ rfl rfl (Option.some.inj hc).symm

theorem OpOk.box {d : Tmp} {t : TypeId} {y : Operand} {ty : TypeId} {pos : String} {after : Array Edge} {gd : Option (Nat × Bool)} {z : AV} {cs : List AV} (b : Nat) (hy : s.ev g y = z) (hc : z.cells? = some cs) (hb : look s.bx b = none) (hn : inN g.ln b = false) (hd : d < s.n) :
    OpOk P g ⟨some d, .box t y, ty, pos, after, gd⟩ s ((s.box b (.var cs)).put d (.ptr b 0)) := by
  intro cx a w G hP hg hs K Q hK
  have h1 := hs.ev hg y
  rw [hy] at h1
  obtain ⟨e1, e2, e3⟩ := h1.cells hc
  obtain ⟨G', hle, hbk, hs'⟩ := hs.newVar hb (hs.notLent hg hn) cs (a.eval y).cells t (Nat.le_of_eq e1.symm) e2
  have hrun : (execOp a.eval ⟨some d, .box t y, ty, pos, after, gd⟩).run P w = .ok (.value (.pointer (some ⟨w.heap.size, 0, none⟩))) (w.alloc (.cells (a.eval y).cells t)) := by
    simp [execOp, Instr.box, newVar, newRow, newObj, Sem.run, World.alloc, -World.alloc_eq]
  unfold Oper.wp
  rw [hrun]
  exact hK _ _ G' (hs'.put hd (.ptr b 0 _ hbk))

theorem pvOfs_ok {G : Gh} : ∀ (vs : List Value) (cs : List PV), pvOfs vs = some cs → vs.length = cs.length ∧ (∀ (i : Nat) x v, (cs.map AV.pv)[i]? = some x → vs[i]? = some v → RA G x v)
  | [], cs, h => by
    simp only [pvOfs] at h
    obtain rfl := Option.some.inj h
    exact ⟨rfl, fun i x v hx => by simp at hx⟩
  | v :: vs, cs, h => by
    simp only [pvOfs] at h
    split at h
    · rename_i p ps h1 h2
      obtain rfl := Option.some.inj h
      obtain ⟨e1, e2⟩ := pvOfs_ok (G := G) vs ps h2
      refine ⟨by simp [e1], fun i x u hx hu => ?_⟩
      cases i with
      | zero => simp at hx hu; subst hx; subst hu; exact .pv _ _ (RP.ofVal h1)
      | succ i => exact e2 i x u (by simpa using hx) (by simpa using hu)
    · cases h
theorem OpOk.alloc {d : Tmp} {t : TypeId} {ty : TypeId} {pos : String} {after : Array Edge} {gd : Option (Nat × Bool)} {i : TI} (b : Nat) (ht : tiOf P t = some i) (hb : look s.bx b = none) (hn : inN g.ln b = false) (hd : d < s.n) :
    OpOk P g ⟨some d, .alloc t, ty, pos, after, gd⟩ s ((s.box b (.var (i.zero.map .pv))).put d (.ptr b 0)) := by
  intro cx a w G hP hg hs K Q hK
  obtain ⟨inf, z, dd, h1, h2, h3, h4, h5, h6, h7⟩ := tiOf_ok ht
  obtain ⟨e1, e2⟩ := pvOfs_ok (G := G) _ _ h7
  obtain ⟨G', hle, hbk, hs'⟩ := hs.newVar hb (hs.notLent hg hn) (i.zero.map .pv) z.cells t (by simpa using Nat.le_of_eq e1.symm) (fun i x v hx hv => e2 i x v hx (by simpa using hv))
  have hz : (zeroValue t).run P w = .ok z w := by simp [zeroValue, typeInfo, h1, h6]
  have hrun : (execOp a.eval ⟨some d, .alloc t, ty, pos, after, gd⟩).run P w = .ok (.value (.pointer (some ⟨w.heap.size, 0, none⟩))) (w.alloc (.cells z.cells t)) := by
    simp [execOp, Instr.alloc, newVar, newRow, newObj, Sem.run_bind, hz, Sem.run, World.alloc, -World.alloc_eq, Result.andThen]
  unfold Oper.wp
  rw [hrun]
  exact hK _ _ G' (hs'.put hd (.ptr b 0 _ hbk))

def setAt {α : Type} (cs : List α) (o : Nat) (ys : List α) : List α := cs.take o ++ ys ++ cs.drop (o + ys.length)
theorem setAt_pt {α β : Type} {R : α → β → Prop} {cs ys : List α} {vs us : List β} {o : Nat} (h1 : ∀ (i : Nat) x v, cs[i]? = some x → vs[i]? = some v → R x v) (h2 : ∀ (i : Nat) x v, ys[i]? = some x → us[i]? = some v → R x v)
    (hl : cs.length ≤ vs.length) (hu : us.length = ys.length) (ho : o + ys.length ≤ cs.length) : ∀ (i : Nat) x v, (setAt cs o ys)[i]? = some x → (setAt vs o us)[i]? = some v → R x v := by
  intro i x v hx hv
  unfold setAt at hx hv
  by_cases c1 : i < o
  · rw [List.getElem?_append_left (by simp; omega), List.getElem?_append_left (by simp; omega), List.getElem?_take, if_pos c1] at hx
    rw [List.getElem?_append_left (by simp; omega), List.getElem?_append_left (by simp; omega), List.getElem?_take, if_pos c1] at hv
    exact h1 i x v hx hv
  · by_cases c2 : i < o + ys.length
    · rw [List.getElem?_append_left (by simp; omega), List.getElem?_append_right (by simp; omega)] at hx
      rw [List.getElem?_append_left (by simp; omega), List.getElem?_append_right (by simp; omega)] at hv
      have e1 : (cs.take o).length = o := by simp; omega
      have e2 : (vs.take o).length = o := by simp; omega
      rw [e1] at hx
      rw [e2] at hv
      exact h2 _ x v hx hv
    · rw [List.getElem?_append_right (by simp; omega), List.getElem?_drop] at hx
      rw [List.getElem?_append_right (by simp; omega), List.getElem?_drop] at hv
      have e1 : o + ys.length + (i - (cs.take o ++ ys).length) = i := by simp; omega
      have e2 : o + us.length + (i - (vs.take o ++ us).length) = i := by simp; omega
      rw [e1] at hx
      rw [e2] at hv
      exact h1 i x v hx hv

theorem OpOk.store {t : TypeId} {y x : Operand} {ty : TypeId} {pos : String} {after : Array Edge} {gd : Option (Nat × Bool)} {i : TI} {b o : Nat} {z : AV} {cs ys cs' : List AV} (ht : tiOf P t = some i) (hy : s.ev g y = .ptr b o) (hx : s.ev g x = z)
    (hz : z.cells? = some ys) (hb : look s.bx b = some (.var cs)) (hn : ys.length = i.size) (ho : Nat.ble (o + ys.length) cs.length = true) (hcs : setAt cs o ys = cs') : OpOk P g ⟨none, .store t y x, ty, pos, after, gd⟩ s (s.box b (.var cs')) := by
  intro cx a w G hP hg hs K Q hK
  have ho := Nat.le_of_ble_eq_true ho
  have h1 := hs.ev hg y
  have h2 := hs.ev hg x
  rw [hy] at h1
  rw [hx] at h2
  obtain ⟨e1, e2, e3⟩ := h2.cells hz
  obtain ⟨k, tk, vs, b1, b2, b3, b4, b5, b6⟩ := hs.bx b _ hb
  generalize hv : a.eval y = v at h1
  cases h1 with
  | ptr _ _ k' hk =>
    rw [hk] at b1
    obtain rfl := Option.some.inj b1
    have hst := run_storeCells_at P k' o tk (a.eval x).cells.toList 0 vs w b3 (by simp [e1]; omega) e3
    have hrun : (execOp a.eval ⟨none, .store t y x, ty, pos, after, gd⟩).run P w = .ok .skip (w.setRow k' (setAt vs.toList o (a.eval x).cells.toList).toArray) := by
      simp only [Nat.add_zero] at hst
      simp only [execOp, hv, Instr.storeAt, Instr.sureAddr, Sem.run_bind, Sem.run_pure, Result.andThen_ok, storeVar, tiOf_size ht w]
      rw [if_neg (by rw [e1, hn]; simp)]
      rw [hst]
      rfl
    unfold Oper.wp
    rw [hrun]
    refine hK _ _ G ?_
    subst hcs
    have hl' : (setAt cs o ys).length ≤ (setAt vs.toList o (a.eval x).cells.toList).length := by simp [setAt, e1]; omega
    refine SR.setVar (s := s) hs hb hk b3 (by simpa using hl') (fun j u v' hu hv' => ?_)
    have q1 : ∀ (j : Nat) u v', cs[j]? = some u → vs.toList[j]? = some v' → RA G u v' := fun j u v' hu hv' => b5 j u v' hu (by rwa [Array.getElem?_toList] at hv')
    have q2 : ∀ (j : Nat) u v', ys[j]? = some u → (a.eval x).cells.toList[j]? = some v' → RA G u v' := fun j u v' hu hv' => e2 j u v' hu (by rwa [Array.getElem?_toList] at hv')
    exact setAt_pt (R := RA G) q1 q2 (by rw [Array.length_toList]; exact b4) (by rw [Array.length_toList]; exact e1) ho j u v' hu (by simpa using hv')
end
end Go.Proofs.YtlcmnhocicehmaaDoor.Vm

/- The value machine, fourth part: fields, elements, aggregates, lengths, cuts. Conditions: none. -/
namespace Go.Proofs.YtlcmnhocicehmaaDoor.Vm
open Go Go.RowKit
set_option linter.unusedVariables false
set_option linter.unusedSimpArgs false

/-- Where the fields of a struct lie, and how many cells each has. -/
def laysOf (P : Program) (t : TypeId) : Option (List (Nat × Nat)) :=
  match P.underlying t with
  | some (.struct fs) => bif fs.toList.all fun f => (P.info? f.type).isSome then some (fs.toList.map fun f => (f.offset, P.cellsOf f.type)) else none
  | _ => none

section
variable {P : Program} {g : Gb} {s s1 s' : St} {cx : Cx} {a : Act} {w : World} {G : Gh}

theorem laysOf_ok {t : TypeId} {l : List (Nat × Nat)} (h : laysOf P t = some l) : ∃ fs, P.underlying t = some (.struct fs) ∧ (fs.toList.all fun f => (P.info? f.type).isSome) = true ∧ l = fs.toList.map fun f => (f.offset, P.cellsOf f.type) := by
  unfold laysOf at h
  split at h
  · rename_i fs h1
    cases hb : fs.toList.all fun f => (P.info? f.type).isSome with
    | false => rw [hb] at h; cases h
    | true => rw [hb] at h; exact ⟨fs, h1, hb, (Option.some.inj h).symm⟩
  · cases h

def AV.off (k : Nat) : AV → Option AV
  | .ptr b o => some (.ptr b (o + k))
  | .eptr cs => some (.eptr (cs.drop k))
  | _ => none
theorem RA.off {x y : AV} {v : Value} {k : Nat} (h : RA G x v) (hy : x.off k = some y) : ∃ ad, v = .pointer (some ad) ∧ RA G y (.pointer (some (ad.add k))) := by
  cases h with
  | ptr b o k' hb =>
    obtain rfl := Option.some.inj hy
    exact ⟨_, rfl, by rw [add_plain0]; exact .ptr b (o + k) k' hb⟩
  | eptr cs ad hs h =>
    obtain rfl := Option.some.inj hy
    refine ⟨ad, rfl, ?_⟩
    rw [add_spot ad hs]
    refine .eptr _ _ rfl (fun j x hx => ?_)
    rw [List.getElem?_drop] at hx
    obtain ⟨v, h1, h2⟩ := h (k + j) x hx
    exact ⟨v, by rw [← h1]; congr 1; simp; omega, h2⟩
  | _ => cases hy

theorem OpOk.fieldAddr {dst : Option Tmp} {t : TypeId} {y : Operand} {f : Nat} {ty : TypeId} {pos : String} {after : Array Edge} {gd : Option (Nat × Bool)} {l : List (Nat × Nat)} {k n : Nat} {z x : AV} (hl : laysOf P t = some l) (hf : l[f]? = some (k, n + 1))
    (hy : s.ev g y = z) (hx : z.off k = some x) (hd : ∀ t, dst = some t → t < s.n) : OpOk P g ⟨dst, .fieldAddr t y f, ty, pos, after, gd⟩ s (s.putO dst x) := by
  refine OpOk.val (o := ⟨dst, .fieldAddr t y f, ty, pos, after, gd⟩) hd (fun cx a w G hP hg hs => ?_)
  obtain ⟨fs, h1, _, rfl⟩ := laysOf_ok hl
  have h2 := hs.ev hg y
  rw [hy] at h2
  obtain ⟨ad, e1, e2⟩ := h2.off hx
  rw [List.getElem?_map, Option.map_eq_some_iff] at hf
  obtain ⟨fd, h3, h4⟩ := hf
  obtain ⟨rfl, h5⟩ := Prod.mk.inj h4
  rw [Array.getElem?_toList] at h3
  refine ⟨_, ?_, e2⟩
  have hi : ∃ i, P.info? fd.type = some i ∧ i.size = n + 1 := by
    unfold Program.cellsOf at h5
    cases hq : P.info? fd.type with
    | none => rw [hq] at h5; simp at h5
    | some i => rw [hq] at h5; exact ⟨i, rfl, by simpa using h5⟩
  obtain ⟨i, h6, h7⟩ := hi
  have hu := run_underlying h1 w
  simp [execOp, Instr.fieldAt, Sem.run_bind, hu, h3, e1, Instr.sureAddr, fieldPlace, sizeOf, typeInfo, h6, h7, Result.andThen]

/-- The elements of a slice. -/
def St.lstOf (s : St) : AV → Option (Nat × List PV)
  | .pv (.lst sz xs) => some (sz, xs)
  | .gl b n => match look s.bx b with
    | some (.lst _ sz xs) => some (sz, xs.take n)
    | _ => none
  | .pv .nil => some (0, [])
  | _ => none
theorem RP.nil_lst {dat : Nat → Nat → Option Value} (sz : Nat) : RP dat (.lst sz []) (.slice none 0 0) :=
  .lst sz [] none 0 0 rfl (Nat.le_refl _) (by simp [maxLen]) (fun e he => by simp at he) (fun e he => by simp at he) (fun _ => rfl) (fun a h => by cases h) (fun a i j e x h => by cases h) (fun a i j e x v h => by cases h)
theorem SR.lst (h : SR cx s a w G) {z : AV} {v : Value} {sz : Nat} {xs : List PV} (hz : RA G z v) (hl : s.lstOf z = some (sz, xs)) : RP G.dat (.lst sz xs) v := by
  cases hz with
  | pv p v hp =>
    cases p with
    | lst sz' xs' =>
      simp only [St.lstOf] at hl
      obtain ⟨rfl, rfl⟩ := Prod.mk.inj (Option.some.inj hl)
      exact hp
    | nil =>
      simp only [St.lstOf] at hl
      obtain ⟨rfl, rfl⟩ := Prod.mk.inj (Option.some.inj hl)
      cases hp
      exact RP.nil_lst _
    | _ => simp [St.lstOf] at hl
  | gl b n v sz' xs' hh hb hn hp hv =>
    simp only [St.lstOf] at hl
    split at hl
    · rename_i e sz2 xs2 hb2
      obtain ⟨hh2, us, h1, _⟩ := h.bx b _ hb2
      rw [hb] at h1
      obtain ⟨rfl, h3⟩ := Prod.mk.inj (Option.some.inj h1)
      obtain ⟨rfl, rfl⟩ := Prod.mk.inj h3
      obtain ⟨rfl, rfl⟩ := Prod.mk.inj (Option.some.inj hl)
      exact hp
    · cases hl
  | _ => simp [St.lstOf] at hl

theorem OpOk.indexLst {dst : Option Tmp} {t e : TypeId} {y ix : Operand} {ty : TypeId} {pos : String} {after : Array Edge} {gd : Option (Nat × Bool)} {i ie : TI} {z : AV} {sz : Nat} {xs : List PV} {k : IntKind} {n : Int} {el : PV} {cs : List PV}
    (ht : tiOf P t = some i) (hk : i.desc = .slc e) (he : tiOf P e = some ie) (hy : s.ev g y = z) (hl : s.lstOf z = some (sz, xs)) (hix : s.ev g ix = .pv (.int k n)) (h0 : 0 ≤ n) (hel : xs[n.toNat]? = some el) (hsz : sz = ie.size) (hcs : el.cells = cs)
    (hd : ∀ t, dst = some t → t < s.n) : OpOk P g ⟨dst, .indexAddr t y ix, ty, pos, after, gd⟩ s (s.putO dst (.eptr cs)) := by
  refine OpOk.val (o := ⟨dst, .indexAddr t y ix, ty, pos, after, gd⟩) hd (fun cx a w G hP hg hs => ?_)
  subst hcs
  have h1 := hs.lst (hs.ev hg y) (by rw [hy]; exact hl)
  have h2 := hs.ev hg ix
  rw [hix] at h2
  have h2 := h2.int
  have hlt := (List.getElem?_eq_some_iff.1 hel).1
  generalize hv : a.eval y = v at h1
  cases h1 with
  | lst _ _ A m c hn hc hm hz h1 hnone hspot hdat hrp =>
    cases A with
    | none => rw [hnone rfl] at hlt; simp at hlt
    | some ad =>
      refine ⟨.pointer (some (ad.add (n.toNat * ie.size))), ?_, ?_⟩
      · have hu := run_underlying (tiOf_slc ht hk) w
        have hs2 := tiOf_size he w
        simp [execOp, Instr.indexAt, hv, h2, asIntOf, Sem.run_bind, hu, Result.andThen]
        rw [if_pos (by omega)]
        simp [Sem.run_bind, hs2, Result.andThen]
      · have hsp := hspot ad rfl
        rw [add_spot ad hsp]
        refine .eptr _ _ rfl (fun j x hx => ?_)
        obtain ⟨u, hu⟩ := hdat ad n.toNat j el x rfl hel hx
        subst hsz
        exact ⟨u, by rw [← hu]; congr 1; simp; omega, hrp ad n.toNat j el x u rfl hel hx hu⟩

/-- An element of an array that a pointer leads to. -/
theorem OpOk.indexArr {dst : Option Tmp} {t e : TypeId} {y ix : Operand} {ty : TypeId} {pos : String} {after : Array Edge} {gd : Option (Nat × Bool)} {i ie : TI} {z x : AV} {len : Nat} {k : IntKind} {n : Int} {m : Nat}
    (ht : tiOf P t = some i) (hk : i.desc = .arr len e) (he : tiOf P e = some ie) (hy : s.ev g y = z) (hix : s.ev g ix = .pv (.int k n)) (h0 : 0 ≤ n) (hn : n < len) (hm : n.toNat * ie.size = m) (hx : z.off m = some x)
    (hd : ∀ t, dst = some t → t < s.n) : OpOk P g ⟨dst, .indexAddr t y ix, ty, pos, after, gd⟩ s (s.putO dst x) := by
  refine OpOk.val (o := ⟨dst, .indexAddr t y ix, ty, pos, after, gd⟩) hd (fun cx a w G hP hg hs => ?_)
  have h2 := hs.ev hg ix
  rw [hix] at h2
  have h2 := h2.int
  have h3 := hs.ev hg y
  rw [hy] at h3
  obtain ⟨ad, e1, e2⟩ := h3.off hx
  refine ⟨_, ?_, e2⟩
  have hu := run_underlying (tiOf_arr ht hk) w
  have hs2 := tiOf_size he w
  simp [execOp, Instr.indexAt, e1, Instr.sureAddr, h2, asIntOf, Sem.run_bind, hu, Result.andThen]
  rw [if_pos (by omega)]
  simp [Sem.run_bind, hs2, Result.andThen, hm]

/-- The length of a slice, of a text. -/
theorem OpOk.lenLst {dst : Option Tmp} {t e : TypeId} {y : Operand} {ty : TypeId} {pos : String} {after : Array Edge} {gd : Option (Nat × Bool)} {i : TI} {z : AV} {sz : Nat} {xs : List PV} {m : Int}
    (ht : tiOf P t = some i) (hk : i.desc = .slc e) (hy : s.ev g y = z) (hl : s.lstOf z = some (sz, xs)) (hm : (xs.length : Int) = m)
    (hd : ∀ t, dst = some t → t < s.n) : OpOk P g ⟨dst, .call { callee := .builtin .len, args := #[y], argTypes := #[t] }, ty, pos, after, gd⟩ s (s.putO dst (.pv (.int .i64 m))) := by
  refine OpOk.val (o := ⟨dst, .call { callee := .builtin .len, args := #[y], argTypes := #[t] }, ty, pos, after, gd⟩) hd (fun cx a w G hP hg hs => ?_)
  have h1 := hs.lst (hs.ev hg y) (by rw [hy]; exact hl)
  generalize hv : a.eval y = v at h1
  cases h1 with
  | lst _ _ A n c hn hc _ hz h1 hnone hspot hdat hrp =>
    refine ⟨.int .i64 n, ?_, by rw [hn, hm]; exact .pv _ _ (.int _ _)⟩
    have hu := run_underlying (tiOf_slc ht hk) w
    simp [execOp, resolve, invoke, builtin, Builtin.len_, hv, hu, Sem.run_bind, Result.andThen, goInt]
theorem OpOk.lenStr {dst : Option Tmp} {t : TypeId} {y : Operand} {ty : TypeId} {pos : String} {after : Array Edge} {gd : Option (Nat × Bool)} {i : TI} {b : ByteArray} {m : Int}
    (ht : tiOf P t = some i) (hk : i.desc = .strg) (hy : s.ev g y = .pv (.str b)) (hm : (b.size : Int) = m)
    (hd : ∀ t, dst = some t → t < s.n) : OpOk P g ⟨dst, .call { callee := .builtin .len, args := #[y], argTypes := #[t] }, ty, pos, after, gd⟩ s (s.putO dst (.pv (.int .i64 m))) := by
  refine OpOk.val (o := ⟨dst, .call { callee := .builtin .len, args := #[y], argTypes := #[t] }, ty, pos, after, gd⟩) hd (fun cx a w G hP hg hs => ?_)
  have h1 := hs.ev hg y
  rw [hy] at h1
  refine ⟨.int .i64 b.size, ?_, by rw [hm]; exact .pv _ _ (.int _ _)⟩
  have hu := run_underlying (tiOf_strg ht hk) w
  simp [execOp, resolve, invoke, builtin, Builtin.len_, h1.str, hu, Sem.run_bind, Result.andThen, goInt]

theorem OpOk.extract {dst : Option Tmp} {y : Operand} {j : Nat} {ty : TypeId} {pos : String} {after : Array Edge} {gd : Option (Nat × Bool)} {xs : List AV} {x : AV} (hy : s.ev g y = .tup xs) (hx : xs[j]? = some x)
    (hd : ∀ t, dst = some t → t < s.n) : OpOk P g ⟨dst, .extract y j, ty, pos, after, gd⟩ s (s.putO dst x) := by
  refine OpOk.val (o := ⟨dst, .extract y j, ty, pos, after, gd⟩) hd (fun cx a w G hP hg hs => ?_)
  have h1 := hs.ev hg y
  rw [hy] at h1
  generalize hv : a.eval y = v at h1
  cases h1 with
  | tup _ vs hl h =>
    have hlt := (List.getElem?_eq_some_iff.1 hx).1
    refine ⟨vs[j]'(by omega), ?_, h j x _ hx (by simp [hl, hlt])⟩
    simp [execOp, Instr.extract, hv, hl, hlt, Sem.run_bind, Result.andThen]

theorem OpOk.indexStr {dst : Option Tmp} {t : TypeId} {y ix : Operand} {ty : TypeId} {pos : String} {after : Array Edge} {gd : Option (Nat × Bool)} {i : TI} {b : ByteArray} {k : IntKind} {n : Int} {c : UInt8}
    (ht : tiOf P t = some i) (hk : i.desc = .strg) (hy : s.ev g y = .pv (.str b)) (hix : s.ev g ix = .pv (.int k n)) (h0 : 0 ≤ n) (hc : b[n.toNat]? = some c)
    (hd : ∀ t, dst = some t → t < s.n) : OpOk P g ⟨dst, .index t y ix, ty, pos, after, gd⟩ s (s.putO dst (.pv (.int .u8 c.toNat))) := by
  refine OpOk.val (o := ⟨dst, .index t y ix, ty, pos, after, gd⟩) hd (fun cx a w G hP hg hs => ?_)
  have h2 := hs.ev hg ix
  rw [hix] at h2
  have h2 := h2.int
  have h3 := hs.ev hg y
  rw [hy] at h3
  refine ⟨.int .u8 c.toNat, ?_, .pv _ _ (.int _ _)⟩
  have hu := run_underlying (tiOf_strg ht hk) w
  simp [execOp, Instr.index, h3.str, h2, asIntOf, Sem.run_bind, hu, Result.andThen, h0, hc]

theorem RP.slice {dat : Nat → Nat → Option Value} {sz : Nat} {xs : List PV} {A : Option Addr} {n c l h m : Nat} (hp : RP dat (.lst sz xs) (.slice A n c)) (hlh : l ≤ h) (hh : h ≤ n) (hm : h ≤ m) (hmc : m ≤ c) :
    RP dat (.lst sz ((xs.take h).drop l)) (.slice (if m = l then A else A.map (·.add (l * sz))) (h - l) (m - l)) := by
  cases hp with
  | lst _ _ _ _ _ hn hc hm2 hz h1 hnone hspot hdat hrp =>
    have hel : ∀ (i : Nat) e, ((xs.take h).drop l)[i]? = some e → xs[l + i]? = some e := fun i e he => by
      rw [List.getElem?_drop, List.getElem?_take] at he
      split at he
      · exact he
      · cases he
    have hmem : ∀ e ∈ (xs.take h).drop l, e ∈ xs := fun e he => List.mem_of_mem_take (List.mem_of_mem_drop he)
    by_cases e : m = l
    · subst e
      have : h = m := by omega
      subst this
      rw [if_pos rfl]
      have h0 : (xs.take h).drop h = [] := by simp
      rw [h0]
      exact .lst sz [] A _ _ (by simp) (by omega) (by omega) (fun e he => by simp at he) (fun e he => by simp at he) (fun _ => rfl) hspot (fun a i j e x _ he => by simp at he) (fun a i j e x v _ he => by simp at he)
    · rw [if_neg e]
      refine .lst sz _ _ _ _ (by simp; omega) (by omega) (by omega) (fun e he => hz e (hmem e he)) (fun e he => h1 e (hmem e he)) (fun hA => ?_) (fun a ha => ?_) (fun a i j e x ha he hx => ?_) (fun a i j e x v ha he hx hv => ?_)
      · have hA2 : A = none := by cases A with | none => rfl | some a => simp at hA
        rw [hnone hA2]
        simp
      · cases A with
        | none => simp at ha
        | some a0 =>
          simp at ha
          subst ha
          rw [add_spot a0 (hspot a0 rfl)]
      · cases A with
        | none => simp at ha
        | some a0 =>
          simp at ha
          subst ha
          rw [add_spot a0 (hspot a0 rfl)]
          obtain ⟨v, hv⟩ := hdat a0 (l + i) j e x rfl (hel i e he) hx
          exact ⟨v, by rw [← hv]; congr 1; simp [Nat.add_mul]; omega⟩
      · cases A with
        | none => simp at ha
        | some a0 =>
          simp at ha
          subst ha
          rw [add_spot a0 (hspot a0 rfl)] at hv
          exact hrp a0 (l + i) j e x v rfl (hel i e he) hx (by rw [← hv]; congr 1; simp [Nat.add_mul]; omega)

/-- The bound of a cut: a number that stands there. -/
def bnd (s : St) (g : Gb) (d : Int) : Option Operand → Option Int
  | none => some d
  | some x => match s.ev g x with
    | .pv (.int _ n) => some n
    | _ => none
theorem run_bound {y : Nat} {k : IntKind} {n : Int} {code : BoundsCode} (h0 : 0 ≤ n) (h1 : n ≤ y) : (Instr.sliceBound (.int k n) y code).run P w = .ok n.toNat w := by
  simp only [Instr.sliceBound, asIntOf, Sem.run_bind, Sem.run_pure, Result.andThen_ok]
  rw [if_pos ⟨h0, h1⟩]
  rfl
theorem SR.bnd (hs : SR cx s a w G) (hg : cx.g = g) {d n : Int} {x : Operand} (h : Vm.bnd s g d (some x) = some n) : ∃ k, a.eval x = .int k n := by
  have h1 := hs.ev hg x
  simp only [Vm.bnd] at h
  split at h
  · rename_i k m hx
    rw [hx] at h1
    obtain rfl := Option.some.inj h
    exact ⟨k, h1.int⟩
  · cases h
theorem OpOk.sliceLst {dst : Option Tmp} {t e : TypeId} {y : Operand} {lo hi : Option Operand} {ty : TypeId} {pos : String} {after : Array Edge} {gd : Option (Nat × Bool)} {i ie : TI} {z : AV} {sz : Nat} {xs ys : List PV} {l h : Int}
    (ht : tiOf P t = some i) (hk : i.desc = .slc e) (he : tiOf P e = some ie) (hy : s.ev g y = z) (hl : s.lstOf z = some (sz, xs)) (hsz : sz = ie.size) (hlo : bnd s g 0 lo = some l) (hhi : bnd s g xs.length hi = some h)
    (h0 : 0 ≤ l) (h1 : l ≤ h) (h2 : h ≤ xs.length) (hys : (xs.take h.toNat).drop l.toNat = ys)
    (hd : ∀ t, dst = some t → t < s.n) : OpOk P g ⟨dst, .slice t y lo hi none, ty, pos, after, gd⟩ s (s.putO dst (.pv (.lst sz ys))) := by
  refine OpOk.val (o := ⟨dst, .slice t y lo hi none, ty, pos, after, gd⟩) hd (fun cx a w G hP hg hs => ?_)
  have h3 := hs.lst (hs.ev hg y) (by rw [hy]; exact hl)
  generalize hv : a.eval y = v at h3
  have h3' := h3
  cases h3' with
  | lst _ _ A n c hn hc _ hz h1' hnone hspot hdat hrp =>
    have h4 := RP.slice (l := l.toNat) (h := h.toNat) (m := c) h3 (by omega) (by omega) (by omega) (Nat.le_refl _)
    rw [hys, hsz] at h4
    refine ⟨_, ?_, by rw [hsz]; exact .pv _ _ h4⟩
    have hu := run_underlying (tiOf_slc ht hk) w
    have hs2 := tiOf_size he w
    cases lo with
    | none =>
      obtain rfl := Option.some.inj hlo
      cases hi with
      | none =>
        obtain rfl := Option.some.inj hhi
        simp [execOp, Instr.sliceAt, Instr.slice, Instr.sliceBounds, hv, hu, hs2, Sem.run_bind, Result.andThen, hn]
      | some x =>
        obtain ⟨k, e1⟩ := hs.bnd hg hhi
        simp [execOp, Instr.sliceAt, Instr.slice, Instr.sliceBounds, hv, hu, hs2, Sem.run_bind, Result.andThen, hn, e1, run_bound (P := P) (w := w) (k := k) (n := h) (y := c) (code := .sliceAcap) (by omega) (by omega)]
    | some y0 =>
      obtain ⟨k0, e0⟩ := hs.bnd hg hlo
      cases hi with
      | none =>
        obtain rfl := Option.some.inj hhi
        simp [execOp, Instr.sliceAt, Instr.slice, Instr.sliceBounds, hv, hu, hs2, Sem.run_bind, Result.andThen, hn, e0, run_bound (P := P) (w := w) (k := k0) (n := l) (y := xs.length) (code := .sliceB) (by omega) (by omega)]
      | some x =>
        obtain ⟨k, e1⟩ := hs.bnd hg hhi
        simp [execOp, Instr.sliceAt, Instr.slice, Instr.sliceBounds, hv, hu, hs2, Sem.run_bind, Result.andThen, hn, e0, e1, run_bound (P := P) (w := w) (k := k) (n := h) (y := c) (code := .sliceAcap) (by omega) (by omega),
          run_bound (P := P) (w := w) (k := k0) (n := l) (y := h.toNat) (code := .sliceB) (by omega) (by omega)]
theorem OpOk.sliceStr {dst : Option Tmp} {t : TypeId} {y : Operand} {lo hi : Option Operand} {ty : TypeId} {pos : String} {after : Array Edge} {gd : Option (Nat × Bool)} {i : TI} {b b' : ByteArray} {l h : Int}
    (ht : tiOf P t = some i) (hk : i.desc = .strg) (hy : s.ev g y = .pv (.str b)) (hlo : bnd s g 0 lo = some l) (hhi : bnd s g b.size hi = some h)
    (h0 : 0 ≤ l) (h1 : l ≤ h) (h2 : h ≤ b.size) (hb : b.extract l.toNat h.toNat = b')
    (hd : ∀ t, dst = some t → t < s.n) : OpOk P g ⟨dst, .slice t y lo hi none, ty, pos, after, gd⟩ s (s.putO dst (.pv (.str b'))) := by
  refine OpOk.val (o := ⟨dst, .slice t y lo hi none, ty, pos, after, gd⟩) hd (fun cx a w G hP hg hs => ?_)
  have h3 := hs.ev hg y
  rw [hy] at h3
  have h3 := h3.str
  subst hb
  refine ⟨_, ?_, .pv _ _ (.str _)⟩
  have hu := run_underlying (tiOf_strg ht hk) w
  cases lo with
  | none =>
    obtain rfl := Option.some.inj hlo
    cases hi with
    | none =>
      obtain rfl := Option.some.inj hhi
      simp [execOp, Instr.sliceAt, Instr.slice, Instr.sliceBounds, h3, hu, Sem.run_bind, Result.andThen]
    | some x =>
      obtain ⟨k, e1⟩ := hs.bnd hg hhi
      simp [execOp, Instr.sliceAt, Instr.slice, Instr.sliceBounds, h3, hu, Sem.run_bind, Result.andThen, e1, run_bound (P := P) (w := w) (k := k) (n := h) (y := b.size) (code := .sliceAlen) (by omega) (by omega)]
  | some y0 =>
    obtain ⟨k0, e0⟩ := hs.bnd hg hlo
    cases hi with
    | none =>
      obtain rfl := Option.some.inj hhi
      simp [execOp, Instr.sliceAt, Instr.slice, Instr.sliceBounds, h3, hu, Sem.run_bind, Result.andThen, e0, run_bound (P := P) (w := w) (k := k0) (n := l) (y := b.size) (code := .sliceB) (by omega) (by omega)]
    | some x =>
      obtain ⟨k, e1⟩ := hs.bnd hg hhi
      simp [execOp, Instr.sliceAt, Instr.slice, Instr.sliceBounds, h3, hu, Sem.run_bind, Result.andThen, e0, e1, run_bound (P := P) (w := w) (k := k) (n := h) (y := b.size) (code := .sliceAlen) (by omega) (by omega),
        run_bound (P := P) (w := w) (k := k0) (n := l) (y := h.toNat) (code := .sliceB) (by omega) (by omega)]
end
end Go.Proofs.YtlcmnhocicehmaaDoor.Vm

/- The value machine, fifth part: slices that the call makes and grows. Conditions: none. -/
namespace Go.Proofs.YtlcmnhocicehmaaDoor.Vm
open Go Go.RowKit
set_option linter.unusedVariables false
set_option linter.unusedSimpArgs false

/-- A row of cells holds these elements. -/
structure RowsOf (dat : Nat → Nat → Option Value) (sz : Nat) (xs : List PV) (us : List Value) : Prop where
  len : us.length = xs.length * sz
  hz : ∀ e ∈ xs, e.cells.length = sz
  h1 : ∀ e ∈ xs, ∀ x ∈ e.cells, x.one = true
  rel : ∀ (i j : Nat) e x v, xs[i]? = some e → e.cells[j]? = some x → us[i * sz + j]? = some v → RP dat x v

theorem idx_lt {i n j sz : Nat} (hi : i < n) (hj : j < sz) : i * sz + j < n * sz := by
  have : (i + 1) * sz ≤ n * sz := Nat.mul_le_mul_right _ hi
  rw [Nat.add_mul] at this
  omega
theorem RowsOf.jlt {dat : Nat → Nat → Option Value} {sz : Nat} {xs : List PV} {us : List Value} (h : RowsOf dat sz xs us) {i j : Nat} {e x : PV} (he : xs[i]? = some e) (hx : e.cells[j]? = some x) : i * sz + j < us.length := by
  have h1 := (List.getElem?_eq_some_iff.1 he).1
  have h2 := (List.getElem?_eq_some_iff.1 hx).1
  rw [h.hz e (List.mem_of_getElem? he)] at h2
  rw [h.len]
  exact idx_lt h1 h2
theorem RowsOf.mono {dat dat' : Nat → Nat → Option Value} {sz : Nat} {xs : List PV} {us : List Value} (h : RowsOf dat sz xs us) (hle : ∀ b o v, dat b o = some v → dat' b o = some v) : RowsOf dat' sz xs us :=
  ⟨h.len, h.hz, h.h1, fun i j e x v he hx hv => (h.rel i j e x v he hx hv).mono hle⟩
theorem RowsOf.append {dat : Nat → Nat → Option Value} {sz : Nat} {xs ys : List PV} {us vs : List Value} (h : RowsOf dat sz xs us) (k : RowsOf dat sz ys vs) : RowsOf dat sz (xs ++ ys) (us ++ vs) := by
  refine ⟨by rw [List.length_append, h.len, k.len, List.length_append, Nat.add_mul], fun e he => ?_, fun e he => ?_, fun i j e x v he hx hv => ?_⟩
  · rcases List.mem_append.1 he with he | he
    · exact h.hz e he
    · exact k.hz e he
  · rcases List.mem_append.1 he with he | he
    · exact h.h1 e he
    · exact k.h1 e he
  · by_cases c : i < xs.length
    · rw [List.getElem?_append_left c] at he
      rw [List.getElem?_append_left (h.jlt he hx)] at hv
      exact h.rel i j e x v he hx hv
    · rw [List.getElem?_append_right (by omega)] at he
      have hle : xs.length * sz ≤ i * sz := Nat.mul_le_mul_right _ (by omega)
      rw [List.getElem?_append_right (by rw [h.len]; omega)] at hv
      refine k.rel (i - xs.length) j e x v he hx ?_
      rw [← hv]
      congr 1
      rw [h.len, Nat.sub_mul]
      omega
theorem RowsOf.lst {dat : Nat → Nat → Option Value} {sz : Nat} {xs : List PV} {us : List Value} (h : RowsOf dat sz xs us) {k c : Nat} (hd : ∀ o, o < xs.length * sz → dat k o = us[o]?) (hc : xs.length ≤ c) (hm : c ≤ maxLen) :
    RP dat (.lst sz xs) (.slice (some ⟨k, 0, none⟩) xs.length c) := by
  refine .lst sz xs _ _ c rfl hc hm h.hz h.h1 (fun h => by cases h) (fun a ha => by obtain rfl := Option.some.inj ha; rfl) (fun a i j e x ha he hx => ?_) (fun a i j e x v ha he hx hv => ?_)
  · obtain rfl := Option.some.inj ha
    have hlt := h.jlt he hx
    refine ⟨us[i * sz + j], ?_⟩
    simp only [Nat.zero_add]
    rw [hd _ (by rw [← h.len]; exact hlt)]
    simp [hlt]
  · obtain rfl := Option.some.inj ha
    have hlt := h.jlt he hx
    simp only [Nat.zero_add] at hv
    rw [hd _ (by rw [← h.len]; exact hlt)] at hv
    exact h.rel i j e x v he hx hv

theorem run_append3 {P : Program} (w : World) (base : Nat) (t ty e : TypeId) (i : TypeInfo) (z : Value) (ht : P.underlying t = some (.slice e)) (hi : P.info? e = some i) (hz : i.zero = some z) (hzs : z.cells.size = i.size) (hsz : 0 < i.size)
    (v : Value) (n : Nat) (xs : List Value) (hown : w.ownsRow base e i.size v n xs) (a : Addr) (m c : Nat) (news : List Value) (hl : news.length = m * i.size) (hnews : ∀ (j : Nat) u, news[j]? = some u → w.cell? (a.add j) = some u) (h1 : ∀ u ∈ news, u.oneCell' = true)
    (h63 : n + m ≤ maxLen) (hbytes : (n + m) * i.bytes ≤ 140737488355328) (hbase : base ≤ w.heap.size) :
    ∃ v' w', (Builtin.append_ #[t, t] ty #[v, .slice (some a) m c]).run P w = .ok v' w' ∧ w'.ownsRow base e i.size v' (n + m) (xs ++ news) ∧ w.grownBy w' v.ownBlock ∧
      (v'.ownBlock = v.ownBlock ∨ ∃ k, v'.ownBlock = some k ∧ w.heap.size ≤ k ∧ ∀ j, j < w.heap.size → w'.heap[j]? = w.heap[j]?) ∧ (m = 0 → v' = v) := by
  have hown0 := hown
  rcases hown.2 with ⟨rfl, rfl⟩ | ⟨g, cap, cur, rfl, hbg, hg, hnc, hcm, hcs, htake⟩
  · obtain ⟨v', w', h2, h3, h4, h5⟩ := run_append_own (P := P) w base t ty e i z i.size i.bytes ht hi hz rfl rfl hzs hsz _ 0 xs hown a m c news hl hnews h1 h63 hbytes hbase
    by_cases hm : m = 0
    · have := h5.2 ⟨rfl, hm⟩
      subst this
      exact ⟨_, w', h2, h3, h4, .inl rfl, fun _ => rfl⟩
    · have hr := run_append_nil (P := P) w t ty e i z ht hi hz a m c news hl hnews (by omega) (by simp only [maxLen] at h63; omega) (by have hb := hbytes; simp only [Nat.zero_add] at hb; omega)
      rw [hr] at h2
      injection h2 with e1 e2
      subst e1
      subst e2
      exact ⟨_, _, hr, h3, h4, .inr ⟨w.heap.size, rfl, Nat.le_refl _, fun j hj => heap_alloc_old w.drew _ j hj⟩, fun e => absurd e hm⟩
  · obtain ⟨v', w', h2, h3, h4, h5⟩ := run_append_own (P := P) w base t ty e i z i.size i.bytes ht hi hz rfl rfl hzs hsz _ n xs hown a m c news hl hnews h1 h63 hbytes hbase
    by_cases hroom : n + m ≤ cap
    · have hfit : n * i.size + news.length ≤ cur.size := by rw [hl, hcs, ← Nat.add_mul]; exact Nat.mul_le_mul_right _ hroom
      have hr := run_append_room (P := P) w t ty e i ht hi g n cap cur hg a m c news hl hnews h1 hroom hfit
      rw [hr] at h2
      injection h2 with e1 e2
      subst e1
      subst e2
      exact ⟨_, _, hr, h3, h4, .inl rfl, fun e => by subst e; rfl⟩
    · have holds : ∀ (j : Nat) u, xs[j]? = some u → w.cell? ((⟨g, 0, none⟩ : Addr).add j) = some u := hown0.cells (g := g) rfl
      have hr := run_append_grow (P := P) w t ty e i z ht hi hz ⟨g, 0, none⟩ n cap xs hown0.1 holds a m c news hl hnews (by omega) (by simp only [maxLen] at h63; omega) (growslice_fits (by omega) hbytes)
      rw [hr] at h2
      injection h2 with e1 e2
      subst e1
      subst e2
      exact ⟨_, _, hr, h3, h4, .inr ⟨w.heap.size, rfl, Nat.le_refl _, fun j hj => heap_alloc_old w.drew _ j hj⟩, fun e => by omega⟩

section
variable {P : Program} {g : Gb} {s s1 s' : St} {cx : Cx} {a : Act} {w : World} {G : Gh}

/-- The cells of a slice of the call's own. -/
theorem SR.rows (h : SR cx s a w G) {b e sz : Nat} {xs : List PV} (hb : look s.bx b = some (.lst e sz xs)) :
    ∃ hh us, G.ls b = some (sz, xs, hh) ∧ 0 < sz ∧ cx.owns w e sz hh xs.length us ∧ RowsOf G.dat sz xs us ∧ RP G.dat (.lst sz xs) hh ∧ (∀ k, hh.ownBlock = some k → ∀ o, xs.length * sz ≤ o → G.dat k o = none) := by
  obtain ⟨hh, us, h1, h2, h3, h4, h5⟩ := h.bx b _ hb
  refine ⟨hh, us, h1, h2, h3, ?_, h4, h5⟩
  have h4' := h4
  cases h4' with
  | lst _ _ A n c hn hc hm hz h1' hnone hspot hdat hrp =>
    refine ⟨h3.1.1, hz, h1', fun i j el x v he hx hv => ?_⟩
    cases A with
    | none => rw [hnone rfl] at he; simp at he
    | some ad =>
      obtain ⟨u, hu⟩ := hdat ad i j el x rfl he hx
      have hcell := h.dat _ _ _ hu
      rcases h3.1.2 with ⟨e1, _⟩ | ⟨gg, cap, cur, e1, _⟩
      · cases e1
      · injection e1 with e2 e3 e4
        obtain rfl := Option.some.inj e2
        have := h3.1.cells (g := gg) rfl (i * sz + j) v hv
        rw [add_plain0] at this
        simp only [Nat.zero_add] at hcell this
        rw [hcell] at this
        obtain rfl := Option.some.inj this
        exact hrp _ i j el x u rfl he hx hu

/-- A slice grown, or made: its cells are known from now on. -/
theorem SR.growLst (h : SR cx s a w G) {w' : World} {b e sz : Nat} {xs : List PV} {hh : Value} {us : List Value} (hsz : 0 < sz) (hnb : G.blk b = none) (hown : cx.owns w' e sz hh xs.length us) (hr : RowsOf G.dat sz xs us)
    (hbel : BelowM cx w') (hsize : w.heap.size ≤ w'.heap.size)
    (hkeep : ∀ k, k < w.heap.size → G.own b ≠ some k → w'.heap[k]? = w.heap[k]?)
    (hold : ∀ k o v, G.own b = some k → G.dat k o = some v → w'.cell? ⟨k, o, none⟩ = some v)
    (hnew : hh.ownBlock = G.own b ∨ ∃ k, hh.ownBlock = some k ∧ w.heap.size ≤ k)
    (hdat : ∀ k, hh.ownBlock = some k → G.own b = some k → ∀ o, xs.length * sz ≤ o → G.dat k o = none)
    (hls : ∀ sz0 xs0 h0, G.ls b = some (sz0, xs0, h0) → ∃ ys, sz0 = sz ∧ xs = xs0 ++ ys ∧ (ys = [] → hh = h0)) :
    ∃ G', G.Le G' ∧ G'.ls b = some (sz, xs, hh) ∧ RP G'.dat (.lst sz xs) hh ∧ SR cx (s.box b (.lst e sz xs)) a w' G' := by
  obtain ⟨D, hD⟩ : ∃ D : Nat → Nat → Option Value, D = fun k o => if hh.ownBlock = some k ∧ o < xs.length * sz then us[o]? else G.dat k o := ⟨_, rfl⟩
  have hulen := hr.len
  have hcell : ∀ k o, hh.ownBlock = some k → o < xs.length * sz → w'.cell? ⟨k, o, none⟩ = us[o]? := fun k o hk ho => by
    have := hown.1.cells hk o (us[o]'(by omega)) (by simp [show o < us.length by omega])
    rw [add_plain0] at this
    simp only [Nat.zero_add] at this
    rw [this]
    simp [show o < us.length by omega]
  have hfresh : ∀ k, hh.ownBlock = some k → G.own b ≠ some k → ∀ o, G.dat k o = none := fun k hk hne o => by
    rcases hnew with e1 | ⟨k', e1, e2⟩
    · exact absurd (e1 ▸ hk) hne
    · rw [hk] at e1
      obtain rfl := Option.some.inj e1
      cases hd : G.dat k o with
      | none => rfl
      | some v => have := h.dat_lt hd; omega
  have hDle : ∀ k o v, G.dat k o = some v → D k o = some v := fun k o v hv => by
    rw [hD]
    by_cases c : hh.ownBlock = some k ∧ o < xs.length * sz
    · simp only [c, and_self, if_true]
      by_cases e1 : G.own b = some k
      · rw [← hcell k o c.1 c.2]
        exact hold k o v e1 hv
      · rw [hfresh k c.1 e1 o] at hv; cases hv
    · simp only [c, if_false]; exact hv
  obtain ⟨G', hG⟩ : ∃ G' : Gh, G' = ⟨D, G.blk, fun i => if i = b then some (sz, xs, hh) else G.ls i⟩ := ⟨_, rfl⟩
  have hle : G.Le G' := by
    subst hG
    refine ⟨hDle, fun _ _ h => h, fun i sz0 xs0 h0 hi => ?_⟩
    by_cases c : i = b
    · subst c
      obtain ⟨ys, rfl, rfl, h3⟩ := hls sz0 xs0 h0 hi
      exact ⟨ys, hh, by simp, h3⟩
    · exact ⟨[], h0, by simpa [c] using hi, fun _ => rfl⟩
  have hlb : G'.ls b = some (sz, xs, hh) := by subst hG; simp
  have hrp : RP G'.dat (.lst sz xs) hh := by
    have hr' := hr.mono (dat' := D) hDle
    have hdat' : G'.dat = D := by subst hG; rfl
    rw [hdat']
    rcases hown.1.2 with ⟨rfl, h0⟩ | ⟨gg, cap, cur, rfl, _, _, hc, hm, _⟩
    · have : xs = [] := List.eq_nil_of_length_eq_zero h0
      subst this
      exact RP.nil_lst _
    · exact hr'.lst (fun o ho => by rw [hD]; simp [Value.ownBlock, ho]) hc hm
  have hownG : ∀ i, i ≠ b → G'.own i = G.own i := fun i hi => by subst hG; simp [Gh.own, hi]
  have hownb : G'.own b = hh.ownBlock := by subst hG; simp [Gh.own, hnb]
  have hother : ∀ i k, i ≠ b → G.own i = some k → w'.heap[k]? = w.heap[k]? ∧ ∀ o, G.dat k o = none → G'.dat k o = none := by
    intro i k hi hk
    have hne : G.own b ≠ some k := fun e => hi (h.inj i b k hk e)
    have hlt := (h.own_lt hk).2
    refine ⟨hkeep k hlt hne, fun o ho => ?_⟩
    subst hG
    show D k o = none
    rw [hD]
    have : ¬ (hh.ownBlock = some k ∧ o < xs.length * sz) := fun c => by
      rcases hnew with e1 | ⟨k', e1, e2⟩
      · exact hne (e1 ▸ c.1)
      · rw [c.1] at e1
        obtain rfl := Option.some.inj e1
        omega
    simp only [this, if_false]
    exact ho
  have hlow : ∀ k, hh.ownBlock = some k → cx.mine k := hown.2
  refine ⟨G', hle, hlb, hrp, ⟨fun t => (h.tm t).mono hle, h.sz, h.df, fun k o v hv => ?_, fun i B hi => ?_, fun i k hi => ?_, fun i x hi => ?_, fun i i' k hi hi' => ?_, hbel, ⟨fun k o hk hm => ?_, fun k o v hv => hle.dat k o v (h.low.2 k o v hv)⟩, fun gg cs hg => (h.glo gg cs hg).mono hle, h.bas⟩⟩
  · have hv' : D k o = some v := by subst hG; exact hv
    rw [hD] at hv'
    by_cases c : hh.ownBlock = some k ∧ o < xs.length * sz
    · simp only [c, and_self, if_true] at hv'
      rw [hcell k o c.1 c.2]
      exact hv'
    · simp only [c, if_false] at hv'
      by_cases e1 : G.own b = some k
      · exact hold k o v e1 hv'
      · rw [← h.dat k o v hv']
        exact World.cell?_of_block (w := w) (hkeep k (h.dat_lt hv') e1)
  · simp only [St.box, look_cons] at hi
    by_cases c : b = i
    · subst c
      rw [if_pos rfl] at hi
      obtain rfl := Option.some.inj hi
      refine ⟨hh, us, hlb, hsz, hown, hrp, fun k hk o ho => ?_⟩
      subst hG
      show D k o = none
      rw [hD]
      have : ¬ (hh.ownBlock = some k ∧ o < xs.length * sz) := by omega
      simp only [this, if_false]
      by_cases e1 : G.own b = some k
      · exact hdat k hk e1 o ho
      · exact hfresh k hk e1 o
    · rw [if_neg c] at hi
      have c' : i ≠ b := fun e => c e.symm
      exact (h.bx i B hi).keep hle (by subst hG; simp [c']) (fun k hk => hother i k c' (h.own_var hk)) (fun x k hx hk => hother i k c' ((h.own_lst hx).trans hk))
  · simp only [St.box, look_cons]
    have hi' : G.blk i = some k := by subst hG; exact hi
    by_cases c : b = i
    · subst c; rw [hnb] at hi'; cases hi'
    · rw [if_neg c]; exact h.gb i k hi'
  · simp only [St.box, look_cons]
    by_cases c : b = i
    · subst c; exact ⟨e, sz, xs, by simp⟩
    · rw [if_neg c]
      have c' : i ≠ b := fun e => c e.symm
      refine h.gl i x ?_
      subst hG
      simpa [c'] using hi
  · by_cases c : i = b
    · by_cases c2 : i' = b
      · rw [c, c2]
      · subst c
        rw [hownb] at hi
        rw [hownG i' c2] at hi'
        have hlt := (h.own_lt hi').2
        rcases hnew with e1 | ⟨k', e1, e2⟩
        · exact h.inj i i' k (e1 ▸ hi) hi'
        · rw [hi] at e1; obtain rfl := Option.some.inj e1; omega
    · by_cases c2 : i' = b
      · subst c2
        rw [hownb] at hi'
        rw [hownG i c] at hi
        have hlt := (h.own_lt hi).2
        rcases hnew with e1 | ⟨k', e1, e2⟩
        · exact h.inj i i' k hi (e1 ▸ hi')
        · rw [hi'] at e1; obtain rfl := Option.some.inj e1; omega
      · rw [hownG i c] at hi
        rw [hownG i' c2] at hi'
        exact h.inj i i' k hi hi'
  · have : ¬ (hh.ownBlock = some k ∧ o < xs.length * sz) := fun c => by
      rcases hlow k c.1 with h1 | h1
      · omega
      · exact hm h1
    subst hG
    show D k o = _
    rw [hD]
    simp only [this, if_false]
    exact h.low.1 k o hk hm

/-- The cells that an append reads. -/
theorem RP.source (h : SR cx s a w G) {sz : Nat} {ys : List PV} {A : Option Addr} {m c : Nat} (hp : RP G.dat (.lst sz ys) (.slice A m c)) : m = ys.length ∧ (A = none → m = 0) ∧ ∃ news, RowsOf G.dat sz ys news ∧ (∀ u ∈ news, u.oneCell' = true) ∧
    ∀ ad, A = some ad → ∀ (j : Nat) u, news[j]? = some u → w.cell? (ad.add j) = some u := by
  cases hp with
  | lst _ _ _ _ _ hn hc hm hz h1 hnone hspot hdat hrp =>
    refine ⟨hn, fun e => by rw [hn, hnone e]; rfl, ?_⟩
    cases A with
    | none =>
      obtain rfl := hnone rfl
      exact ⟨[], ⟨by simp, hz, h1, fun i j e x v he => by simp at he⟩, fun u hu => by simp at hu, fun ad h => by cases h⟩
    | some ad =>
      by_cases hsz0 : sz = 0
      · subst hsz0
        refine ⟨[], ⟨by simp, hz, h1, fun i j e x v he hx hv => by simp at hv⟩, fun u hu => by simp at hu, fun ad' _ j u hu => by simp at hu⟩
      · have hpos : 0 < sz := Nat.pos_of_ne_zero hsz0
        have hpick : ∀ q, q < ys.length * sz → ∃ v, G.dat ad.block (ad.off + q) = some v ∧ ∀ (i j : Nat) e x, ys[i]? = some e → e.cells[j]? = some x → i * sz + j = q → RP G.dat x v ∧ x.one = true := by
          intro q hq
          have hi : q / sz < ys.length := (Nat.div_lt_iff_lt_mul hpos).2 hq
          have hjz : (ys[q / sz]).cells.length = sz := hz _ (List.getElem_mem hi)
          have hj : q % sz < (ys[q / sz]).cells.length := by rw [hjz]; exact Nat.mod_lt _ hpos
          have heq : q / sz * sz + q % sz = q := by rw [Nat.mul_comm]; exact Nat.div_add_mod q sz
          obtain ⟨v, hv⟩ := hdat ad (q / sz) (q % sz) _ _ rfl (List.getElem?_eq_getElem hi) (List.getElem?_eq_getElem hj)
          refine ⟨v, by rw [← heq]; exact hv, fun i j e x he hx hij => ?_⟩
          exact ⟨hrp ad i j e x v rfl he hx (by rw [hij, ← heq]; exact hv), h1 e (List.mem_of_getElem? he) x (List.mem_of_getElem? hx)⟩
        have hex : ∃ f : Nat → Value, ∀ q, q < ys.length * sz → G.dat ad.block (ad.off + q) = some (f q) ∧ ∀ (i j : Nat) e x, ys[i]? = some e → e.cells[j]? = some x → i * sz + j = q → RP G.dat x (f q) ∧ x.one = true := by
          refine ⟨fun q => if hq : q < ys.length * sz then Classical.choose (hpick q hq) else undef, fun q hq => ?_⟩
          simp only [dif_pos hq]
          exact Classical.choose_spec (hpick q hq)
        obtain ⟨f, hf⟩ := hex
        have hget : ∀ (q : Nat) u, ((List.range (ys.length * sz)).map f)[q]? = some u → q < ys.length * sz ∧ u = f q := fun q u hu => by
          have hq := (List.getElem?_eq_some_iff.1 hu).1
          simp at hq
          simp [hq] at hu
          exact ⟨hq, hu.symm⟩
        refine ⟨(List.range (ys.length * sz)).map f, ⟨by simp, hz, h1, fun i j e x v he hx hv => ?_⟩, fun u hu => ?_, fun ad' hA j u hu => ?_⟩
        · obtain ⟨hq, rfl⟩ := hget _ _ hv
          exact ((hf _ hq).2 i j e x he hx rfl).1
        · obtain ⟨q, hq, rfl⟩ := List.mem_map.1 hu
          have hq := List.mem_range.1 hq
          have hi : q / sz < ys.length := (Nat.div_lt_iff_lt_mul hpos).2 hq
          have hjz : (ys[q / sz]).cells.length = sz := hz _ (List.getElem_mem hi)
          have hj : q % sz < (ys[q / sz]).cells.length := by rw [hjz]; exact Nat.mod_lt _ hpos
          have heq : q / sz * sz + q % sz = q := by rw [Nat.mul_comm]; exact Nat.div_add_mod q sz
          obtain ⟨r1, r2⟩ := (hf q hq).2 (q / sz) (q % sz) _ _ (List.getElem?_eq_getElem hi) (List.getElem?_eq_getElem hj) heq
          exact (r1.one r2).1
        · obtain rfl := Option.some.inj hA
          obtain ⟨hq, rfl⟩ := hget _ _ hu
          rw [add_spot ad (hspot ad rfl)]
          exact h.dat _ _ _ (hf j hq).1

theorem run_append_none {t ty e : TypeId} {i : TypeInfo} (ht : P.underlying t = some (.slice e)) (hi : P.info? e = some i) (A : Option Addr) (n c : Nat) (hc : n ≤ c) (cc : Nat) :
    (Builtin.append_ #[t, t] ty #[.slice A n c, .slice none 0 cc]).run P w = .ok (.slice A n c) w := by
  cases A with
  | none => simp [Builtin.append_, run_underlying ht, sizeOf, typeInfo, hi, Builtin.lenOf, Builtin.firstCells, hc]
  | some a => simp [Builtin.append_, run_underlying ht, sizeOf, typeInfo, hi, Builtin.lenOf, Builtin.firstCells, hc, storeCells]

/-- An append to a slice of the call's own. -/
theorem OpOk.append {d : Tmp} {t e : TypeId} {y x : Operand} {ty : TypeId} {pos : String} {after : Array Edge} {gd : Option (Nat × Bool)} {i ie : TI} {b n sz : Nat} {xs ys zs : List PV} {z : AV}
    (ht : tiOf P t = some i) (hk : i.desc = .slc e) (he : tiOf P e = some ie) (hy : s.ev g y = .gl b n) (hb : look s.bx b = some (.lst e sz xs)) (hn : n = xs.length) (hx : s.ev g x = z) (hl : s.lstOf z = some (sz, ys)) (hsz : sz = ie.size) (hzl : ie.zero.length = ie.size) (hpos : 0 < ie.size)
    (hb1 : (xs.length + ys.length) * ie.bytes ≤ 140737488355328) (hb2 : xs.length + ys.length ≤ maxLen) (hzs : xs ++ ys = zs) (hd : d < s.n) :
    OpOk P g ⟨some d, .call { callee := .builtin .append, args := #[y, x], argTypes := #[t, t] }, ty, pos, after, gd⟩ s ((s.box b (.lst e sz zs)).put d (.gl b zs.length)) := by
  intro cx a w G hP hg hs K Q hK
  subst hzs
  subst hn
  subst hsz
  obtain ⟨inf, z0, dd, i1, i2, i3, i4, i5, i6, i7⟩ := tiOf_ok he
  obtain ⟨hh, us, g1, g2, g3, g4, g5, g6⟩ := hs.rows hb
  have hy' := hs.ev hg y
  rw [hy] at hy'
  have hyv : a.eval y = hh := by
    generalize a.eval y = v at hy'
    cases hy' with
    | gl _ _ _ sz' xs' h' hb' hn' hp' hv' =>
      rw [g1] at hb'
      obtain ⟨rfl, h3⟩ := Prod.mk.inj (Option.some.inj hb')
      obtain ⟨rfl, rfl⟩ := Prod.mk.inj h3
      exact hv' rfl
  have hxr := hs.lst (hs.ev hg x) (by rw [hx]; exact hl)
  have hxv : ∃ A m c, a.eval x = .slice A m c := by
    generalize a.eval x = v at hxr
    cases hxr with
    | lst _ _ A m c => exact ⟨A, _, c, rfl⟩
  obtain ⟨A, m, c, hxe⟩ := hxv
  rw [hxe] at hxr
  obtain ⟨q1, q2, news, q3, q4, q5⟩ := RP.source hs hxr
  have hu := tiOf_slc ht hk
  have hcells : z0.cells.size = inf.size := by
    have := (pvOfs_ok (G := G) _ _ i7).1
    rw [Array.length_toList] at this
    rw [this, hzl, i4]
  have hown0 := hs.own_lst g1
  have key : ∃ v' w', (Builtin.append_ #[t, t] ty #[hh, .slice A m c]).run P w = .ok v' w' ∧ cx.owns w' e ie.size v' (xs.length + ys.length) (us ++ news) ∧ w.grownBy w' hh.ownBlock ∧
      (v'.ownBlock = hh.ownBlock ∨ ∃ k, v'.ownBlock = some k ∧ w.heap.size ≤ k ∧ ∀ j, j < w.heap.size → w'.heap[j]? = w.heap[j]?) ∧ (ys = [] → v' = hh) := by
    cases A with
    | none =>
      have hm0 := q2 rfl
      have hys : ys = [] := List.eq_nil_of_length_eq_zero (by omega)
      subst hys
      have hnews : news = [] := List.eq_nil_of_length_eq_zero (by rw [q3.len]; simp)
      subst hnews
      subst hm0
      have hsl : ∃ A' c', hh = .slice A' xs.length c' ∧ xs.length ≤ c' := by
        rcases g3.1.2 with ⟨e1, e2⟩ | ⟨gg, cap, cur, e1, _, _, hc, _⟩
        · exact ⟨none, 0, by rw [e1, e2], by omega⟩
        · exact ⟨_, _, e1, hc⟩
      obtain ⟨A', c', e1, e2⟩ := hsl
      refine ⟨hh, w, ?_, by simpa using g3, ⟨rfl, rfl, rfl, Nat.le_refl _, fun _ _ _ => rfl⟩, .inl rfl, fun _ => rfl⟩
      rw [e1]
      exact run_append_none hu i1 A' _ c' e2 c
    | some ad =>
      obtain ⟨v', w', r1, r2, r3, r4, r5⟩ := run_append3 (P := P) w 0 t ty e inf z0 hu i1 i6 hcells (by rw [i4]; exact hpos) hh xs.length us (by rw [i4]; exact g3.1) ad m c news (by rw [q3.len, q1, i4]) (fun j u hu => q5 ad rfl j u hu) q4
        (by rw [q1]; exact hb2) (by rw [q1, i5]; exact hb1) (Nat.zero_le _)
      rw [q1, i4] at r2
      exact ⟨v', w', r1, ⟨r2, fun k hk => by
        rcases r4 with e1 | ⟨k', e1, e2, _⟩
        · exact g3.2 k (e1 ▸ hk)
        · rw [hk] at e1; obtain rfl := Option.some.inj e1; exact .inl (Nat.le_trans hs.basele e2)⟩, r3, r4, fun hys => r5 (by rw [q1, hys]; rfl)⟩
  obtain ⟨v', w', r1, r2, r3, r4, r5⟩ := key
  have hsame : ∀ k, k < w.heap.size → G.own b ≠ some k → w'.heap[k]? = w.heap[k]? := fun k hk hne => r3.block k hk (fun e => hne (by rw [hown0]; exact e.symm))
  have holdc : ∀ k o v, G.own b = some k → G.dat k o = some v → w'.cell? ⟨k, o, none⟩ = some v := by
    intro k o v hk hv
    rw [hown0] at hk
    have ho : o < xs.length * ie.size := by
      cases Nat.lt_or_ge o (xs.length * ie.size) with
      | inl h => exact h
      | inr h => rw [g6 k hk o h] at hv; cases hv
    have hc1 := hs.dat k o v hv
    have hc2 := g3.1.cells hk o (us[o]'(by rw [g4.len]; exact ho)) (by simp [g4.len, ho])
    rw [add_plain0] at hc2
    simp only [Nat.zero_add] at hc2
    rw [hc1] at hc2
    obtain rfl := Option.some.inj hc2
    rcases r4 with e1 | ⟨k', e1, e2⟩
    · have := r2.1.cells (e1.trans hk) o (us[o]'(by rw [g4.len]; exact ho)) (by rw [List.getElem?_append_left (by rw [g4.len]; exact ho)]; simp [g4.len, ho])
      rw [add_plain0] at this
      simpa using this
    · rw [← hc1]
      exact World.cell?_of_block (w := w) (e2.2 k (g3.1.lt k hk).2)
  obtain ⟨G', k1, k2, k3, k4⟩ := hs.growLst (w' := w') (b := b) (e := e) (sz := ie.size) (xs := xs ++ ys) (hh := v') (us := us ++ news) g2 (hs.lst_blk hb) (by rw [List.length_append]; exact r2) (g4.append q3)
    (hs.bel.grown r3 hs.basele (fun k hk => g3.2 k hk)) r3.size hsame holdc
    (by
      rcases r4 with e1 | ⟨k', e1, e2, _⟩
      · exact .inl (e1.trans hown0.symm)
      · exact .inr ⟨k', e1, e2⟩)
    (fun k _ hk o ho => g6 k (by rw [hown0] at hk; exact hk) o (by rw [List.length_append, Nat.add_mul] at ho; omega))
    (fun sz0 xs0 h0 hq => by
      rw [g1] at hq
      obtain ⟨rfl, h3⟩ := Prod.mk.inj (Option.some.inj hq)
      obtain ⟨rfl, rfl⟩ := Prod.mk.inj h3
      exact ⟨ys, rfl, rfl, r5⟩)
  have hrun : (execOp a.eval ⟨some d, .call { callee := .builtin .append, args := #[y, x], argTypes := #[t, t] }, ty, pos, after, gd⟩).run P w = .ok (.value v') w' := by
    simp only [execOp, resolve, invoke, builtin, Sem.run_bind, Sem.run_pure, Result.andThen_ok, List.map_toArray, List.map_cons, List.map_nil, hyv, hxe]
    obtain ⟨_, _, r1', _⟩ : ∃ (_ : Unit) (_ : Unit), (Builtin.append_ #[t, t] ty #[hh, .slice A m c]).run P w = .ok v' w' ∧ True := ⟨(), (), r1, trivial⟩
    rw [r1']
    rfl
  unfold Oper.wp
  rw [hrun]
  refine hK _ _ G' (k4.put hd (.gl b _ v' ie.size (xs ++ ys) v' k2 (Nat.le_refl _) ?_ (fun _ => rfl)))
  rw [List.take_length]
  exact k3
end
end Go.Proofs.YtlcmnhocicehmaaDoor.Vm

/- The value machine, sixth part: states made weaker, calls, a function's contract. Conditions: none. -/
namespace Go.Proofs.YtlcmnhocicehmaaDoor.Vm
open Go Go.RowKit
set_option linter.unusedVariables false
set_option linter.unusedSimpArgs false

/-- The value names these boxes alone. -/
inductive Mentions (D : Nat → Bool) : AV → Prop
  | any : Mentions D .any
  | pv (p : PV) : Mentions D (.pv p)
  | agg (cs : List AV) (h : ∀ x ∈ cs, Mentions D x) : Mentions D (.agg cs)
  | tup (cs : List AV) (h : ∀ x ∈ cs, Mentions D x) : Mentions D (.tup cs)
  | gl (b n : Nat) (h : D b = true) : Mentions D (.gl b n)
  | ptr (b o : Nat) (h : D b = true) : Mentions D (.ptr b o)
  | vrow (b o n : Nat) (h : D b = true) : Mentions D (.vrow b o n)
  | eptr (cs : List PV) : Mentions D (.eptr cs)
  | clo (f : FuncId) (cs : List AV) (h : ∀ x ∈ cs, Mentions D x) : Mentions D (.clo f cs)
def has (bx : List (Nat × Box)) (b : Nat) : Bool := (look bx b).isSome
def men1 (bx : List (Nat × Box)) : AV → Bool
  | .any | .pv _ | .eptr _ => true
  | .gl b _ | .ptr b _ | .vrow b _ _ => has bx b
  | _ => false
def mens1 (bx : List (Nat × Box)) : List AV → Bool
  | [] => true
  | x :: xs => men1 bx x && mens1 bx xs
def men2 (bx : List (Nat × Box)) : AV → Bool
  | .agg cs | .tup cs | .clo _ cs => mens1 bx cs
  | x => men1 bx x
def mens2 (bx : List (Nat × Box)) : List AV → Bool
  | [] => true
  | x :: xs => men2 bx x && mens2 bx xs
def men3 (bx : List (Nat × Box)) : AV → Bool
  | .agg cs | .tup cs | .clo _ cs => mens2 bx cs
  | x => men1 bx x
theorem men1_ok {bx : List (Nat × Box)} {x : AV} (h : men1 bx x = true) : Mentions (has bx) x := by
  cases x with
  | any => exact .any
  | pv p => exact .pv p
  | eptr cs => exact .eptr cs
  | gl b n => exact .gl b n h
  | ptr b o => exact .ptr b o h
  | vrow b o n => exact .vrow b o n h
  | agg | tup | clo => simp [men1] at h
theorem mens1_ok {bx : List (Nat × Box)} : ∀ {l : List AV}, mens1 bx l = true → ∀ x ∈ l, Mentions (has bx) x
  | [], _, x, hx => by simp at hx
  | y :: l, h, x, hx => by
    simp only [mens1, Bool.and_eq_true] at h
    cases hx with
    | head => exact men1_ok h.1
    | tail _ hx => exact mens1_ok h.2 x hx
theorem men2_ok {bx : List (Nat × Box)} {x : AV} (h : men2 bx x = true) : Mentions (has bx) x := by
  cases x with
  | agg cs => exact .agg cs (mens1_ok h)
  | tup cs => exact .tup cs (mens1_ok h)
  | clo f cs => exact .clo f cs (mens1_ok h)
  | _ => exact men1_ok h
theorem mens2_ok {bx : List (Nat × Box)} : ∀ {l : List AV}, mens2 bx l = true → ∀ x ∈ l, Mentions (has bx) x
  | [], _, x, hx => by simp at hx
  | y :: l, h, x, hx => by
    simp only [mens2, Bool.and_eq_true] at h
    cases hx with
    | head => exact men2_ok h.1
    | tail _ hx => exact mens2_ok h.2 x hx
theorem men3_ok {bx : List (Nat × Box)} {x : AV} (h : men3 bx x = true) : Mentions (has bx) x := by
  cases x with
  | agg cs => exact .agg cs (mens2_ok h)
  | tup cs => exact .tup cs (mens2_ok h)
  | clo f cs => exact .clo f cs (mens2_ok h)
  | _ => exact men1_ok h

/-- What two ghosts that agree on those boxes say of such a value. -/
theorem RA.agree {G G' : Gh} {D : Nat → Bool} (hd : ∀ b o v, G.dat b o = some v → G'.dat b o = some v) (hb : ∀ b k, D b = true → G.blk b = some k → G'.blk b = some k) (hl : ∀ b x, D b = true → G.ls b = some x → G'.ls b = some x)
    {x : AV} {v : Value} (h : RA G x v) (hm : Mentions D x) : RA G' x v := by
  induction h with
  | any v => exact .any v
  | pv p v h => exact .pv p v (h.mono hd)
  | agg cs vs hs _ ih => cases hm with | agg _ hm => exact .agg cs vs hs fun i x v hx hv => ih i x v hx hv (hm x (List.mem_of_getElem? hx))
  | tup cs vs hs _ ih => cases hm with | tup _ hm => exact .tup cs vs hs fun i x v hx hv => ih i x v hx hv (hm x (List.mem_of_getElem? hx))
  | gl b n v sz xs h hb' hn hp hv => cases hm with | gl _ _ hm => exact .gl b n v sz xs h (hl b _ hm hb') hn (hp.mono hd) hv
  | ptr b o k hk => cases hm with | ptr _ _ hm => exact .ptr b o k (hb b k hm hk)
  | vrow b o n c k hk hc => cases hm with | vrow _ _ _ hm => exact .vrow b o n c k (hb b k hm hk) hc
  | eptr cs a hs h => exact .eptr cs a hs fun j x hx => let ⟨v, h1, h2⟩ := h j x hx; ⟨v, hd _ _ _ h1, h2.mono hd⟩
  | clo f cs vs hs _ ih => cases hm with | clo _ _ hm => exact .clo f cs vs hs fun i x v hx hv => ih i x v hx hv (hm x (List.mem_of_getElem? hx))

/-- One value says no more than another, in a state. -/
inductive AVle (s : St) : AV → AV → Prop
  | refl (x : AV) : AVle s x x
  | any (x : AV) : AVle s x .any
  | lst (x : AV) (sz : Nat) (xs : List PV) (h : s.lstOf x = some (sz, xs)) : AVle s x (.pv (.lst sz xs))
  | nil (sz : Nat) : AVle s (.pv .nil) (.pv (.lst sz []))
  | agg (xs ys : List AV) (hl : xs.length = ys.length) (h : ∀ (i : Nat) x y, xs[i]? = some x → ys[i]? = some y → AVle s x y) : AVle s (.agg xs) (.agg ys)
  | tup (xs ys : List AV) (hl : xs.length = ys.length) (h : ∀ (i : Nat) x y, xs[i]? = some x → ys[i]? = some y → AVle s x y) : AVle s (.tup xs) (.tup ys)
theorem AVle.of_eq {s : St} {x y : AV} (h : x = y) : AVle s x y := h ▸ .refl x
inductive AVles (s : St) : List AV → List AV → Prop
  | nil : AVles s [] []
  | cons {x y : AV} {xs ys : List AV} (h : AVle s x y) (t : AVles s xs ys) : AVles s (x :: xs) (y :: ys)
theorem AVles.get {s : St} {xs ys : List AV} (h : AVles s xs ys) : xs.length = ys.length ∧ ∀ (i : Nat) x y, xs[i]? = some x → ys[i]? = some y → AVle s x y := by
  induction h with
  | nil => exact ⟨rfl, fun i x y hx => by simp at hx⟩
  | cons h t ih =>
    refine ⟨by simp [ih.1], fun i x y hx hy => ?_⟩
    cases i with
    | zero => simp at hx hy; subst hx; subst hy; exact h
    | succ i => exact ih.2 i x y (by simpa using hx) (by simpa using hy)
theorem AVle.aggs {s : St} {xs ys : List AV} (h : AVles s xs ys) : AVle s (.agg xs) (.agg ys) := .agg xs ys h.get.1 h.get.2
theorem AVle.tups {s : St} {xs ys : List AV} (h : AVles s xs ys) : AVle s (.tup xs) (.tup ys) := .tup xs ys h.get.1 h.get.2

section
variable {P : Program} {g : Gb} {s s1 s' : St} {cx : Cx} {a : Act} {w : World} {G : Gh}
theorem SR.le (h : SR cx s a w G) {x y : AV} (hle : AVle s x y) : ∀ {v : Value}, RA G x v → RA G y v := by
  induction hle with
  | refl x => exact fun hv => hv
  | any x => exact fun {v} _ => .any v
  | lst x sz xs hx => exact fun hv => .pv _ _ (h.lst hv hx)
  | nil sz => intro v hv; cases hv with | pv _ _ hv => cases hv; exact .pv _ _ (RP.nil_lst sz)
  | agg xs ys hl _ ih =>
    intro v hv
    cases hv with
    | agg _ vs hs hv =>
      refine .agg ys vs (by omega) (fun i y v hy hv' => ?_)
      have hlt := (List.getElem?_eq_some_iff.1 hy).1
      exact ih i (xs[i]'(by omega)) y (List.getElem?_eq_getElem _) hy (hv i _ v (List.getElem?_eq_getElem _) hv')
  | tup xs ys hl _ ih =>
    intro v hv
    cases hv with
    | tup _ vs hs hv =>
      refine .tup ys vs (by omega) (fun i y v hy hv' => ?_)
      have hlt := (List.getElem?_eq_some_iff.1 hy).1
      exact ih i (xs[i]'(by omega)) y (List.getElem?_eq_getElem _) hy (hv i _ v (List.getElem?_eq_getElem _) hv')

inductive BxLe (s : St) : Box → Box → Prop
  | refl (B : Box) : BxLe s B B
  | var {xs ys : List AV} (h : AVles s xs ys) : BxLe s (.var xs) (.var ys)
def menB (bx : List (Nat × Box)) : Box → Bool
  | .var cs => mens2 bx cs
  | _ => true
/-- A state is given up for one that says less. -/
theorem SLe.mk {tm : List (Nat × AV)} {bx : List (Nat × Box)} (ht : ∀ p ∈ tm, AVle s (s.get p.1) p.2) (hb : ∀ p ∈ bx, ∃ B, look s.bx p.1 = some B ∧ BxLe s B p.2) (hmt : ∀ p ∈ tm, men3 bx p.2 = true) (hmb : ∀ p ∈ bx, menB bx p.2 = true) : SLe s ⟨s.n, tm, bx⟩ := by
  intro cx a w G h
  have lookmem : ∀ {α : Type} (l : List (Nat × α)) (i : Nat) (x : α), look l i = some x → (i, x) ∈ l := by
    intro α l
    induction l with
    | nil => intro i x h; simp [look] at h
    | cons p l ih =>
      intro i x h
      obtain ⟨k, y⟩ := p
      rw [look_cons] at h
      by_cases c : k = i
      · rw [if_pos c] at h
        obtain rfl := Option.some.inj h
        subst c
        simp
      · rw [if_neg c] at h
        exact List.mem_cons_of_mem _ (ih i x h)
  obtain ⟨G', hG⟩ : ∃ G' : Gh, G' = ⟨G.dat, fun b => if has bx b = true then G.blk b else none, fun b => if has bx b = true then G.ls b else none⟩ := ⟨_, rfl⟩
  have hagree : ∀ {x : AV} {v : Value}, RA G x v → Mentions (has bx) x → RA G' x v := fun hx hm =>
    hx.agree (G' := G') (D := has bx) (fun _ _ _ h => by subst hG; exact h) (fun b k hD hk => by subst hG; simp [hD, hk]) (fun b x hD hk => by subst hG; simp [hD, hk]) hm
  have hown : ∀ b k, G'.own b = some k → G.own b = some k := fun b k hk => by
    subst hG
    unfold Gh.own at hk ⊢
    by_cases c : has bx b = true
    · simpa [c] using hk
    · simp [c] at hk
  have heptr : ∀ cs v, RA G (.eptr cs) v → RA G' (.eptr cs) v := fun cs v hv => hagree hv (.eptr cs)
  refine ⟨G', ⟨fun t => ?_, h.sz, h.df, fun b o v hv => h.dat b o v (by subst hG; exact hv), fun b B hB => ?_, fun b k hk => ?_, fun b x hx => ?_, fun b b' k hk hk' => h.inj b b' k (hown b k hk) (hown b' k hk'), h.bel, by subst hG; exact h.low, fun gg cs hg => heptr _ _ (h.glo gg cs hg), h.bas⟩⟩
  · unfold St.get
    cases hl : look tm t with
    | none => exact .any _
    | some x =>
      have hm := lookmem tm t x hl
      exact hagree (h.le (ht _ hm) (h.tm t)) (men3_ok (hmt _ hm))
  · have hm := lookmem bx b B hB
    obtain ⟨B0, hB0, hle⟩ := hb _ hm
    have hD : has bx b = true := by simp [has, hB]
    have h1 := h.bx b B0 hB0
    have hmB := hmb _ hm
    cases hle with
    | refl =>
      cases B with
      | var cs =>
        obtain ⟨k, ty, vs, e1, e2, e3, e4, e5, e6⟩ := h1
        exact ⟨k, ty, vs, by subst hG; simp [hD, e1], e2, e3, e4, fun i x v hx hv => hagree (e5 i x v hx hv) (mens2_ok hmB x (List.mem_of_getElem? hx)), fun o => by subst hG; exact e6 o⟩
      | lst e sz xs =>
        obtain ⟨hh, us, e1, e2, e3, e4, e5⟩ := h1
        exact ⟨hh, us, by subst hG; simp [hD, e1], e2, e3, by subst hG; exact e4, fun k hk o ho => by subst hG; exact e5 k hk o ho⟩
      | iter s0 pos =>
        obtain ⟨k, e1, e2, e3, e4⟩ := h1
        exact ⟨k, by subst hG; simp [hD, e1], e2, e3, fun o => by subst hG; exact e4 o⟩
    | var hvs =>
      rename_i xs ys
      obtain ⟨k, ty, vs, e1, e2, e3, e4, e5, e6⟩ := h1
      obtain ⟨l1, l2⟩ := hvs.get
      refine ⟨k, ty, vs, by subst hG; simp [hD, e1], e2, e3, by omega, fun i y v hy hv => ?_, fun o => by subst hG; exact e6 o⟩
      have hlt := (List.getElem?_eq_some_iff.1 hy).1
      exact hagree (h.le (l2 i (xs[i]'(by omega)) y (List.getElem?_eq_getElem _) hy) (e5 i _ v (List.getElem?_eq_getElem _) hv)) (mens2_ok hmB y (List.mem_of_getElem? hy))
  · have hD : has bx b = true := by
      subst hG
      by_cases c : has bx b = true
      · exact c
      · simp [c] at hk
    have hk0 : G.blk b = some k := by subst hG; simpa [hD] using hk
    obtain ⟨⟨C0, hc, hcb⟩, hln⟩ := h.gb b k hk0
    refine ⟨?_, hln⟩
    unfold has at hD
    obtain ⟨B, hB⟩ := Option.isSome_iff_exists.1 hD
    obtain ⟨B0, hB0, hle⟩ := hb _ (lookmem bx b B hB)
    simp only at hB0
    rw [hc] at hB0
    obtain rfl := Option.some.inj hB0
    simp only at hle
    cases hle with
    | refl => exact ⟨_, hB, hcb⟩
    | var _ => exact ⟨_, hB, rfl⟩
  · have hD : has bx b = true := by
      subst hG
      by_cases c : has bx b = true
      · exact c
      · simp [c] at hx
    have hx0 : G.ls b = some x := by subst hG; simpa [hD] using hx
    obtain ⟨e, sz, xs, hc⟩ := h.gl b x hx0
    unfold has at hD
    obtain ⟨B, hB⟩ := Option.isSome_iff_exists.1 hD
    obtain ⟨B0, hB0, hle⟩ := hb _ (lookmem bx b B hB)
    simp only at hB0
    rw [hc] at hB0
    obtain rfl := Option.some.inj hB0
    simp only at hle
    cases hle with
    | refl => exact ⟨e, sz, xs, hB⟩

/-- A function's contract: called so, it gives that, and boxes of its own with it. -/
def FnOk (P : Program) (g : Gb) (f : FuncId) (args : List AV) (r : AV) (bs : List (Nat × Box)) : Prop :=
  ∀ (w : World) (vals : Array Value) (dat : Nat → Nat → Option Value), (∀ b o v, dat b o = some v → w.cell? ⟨b, o, none⟩ = some v) → vals.size = args.length →
    (∀ (i : Nat) x v, args[i]? = some x → vals[i]? = some v → RA ⟨dat, fun _ => none, fun _ => none⟩ x v) → (∀ k cs, g.fn k = some cs → RA ⟨dat, fun _ => none, fun _ => none⟩ (.eptr cs) (.pointer (some ⟨k, 0, none⟩))) →
    Calls P f vals w fun e w' => ∃ v G', e = .returned v ∧ SR (Cx.fresh P w dat g.fn) ⟨1, [(0, r)], bs⟩ ⟨#[v], []⟩ w' G'

/-- A function's result, in the state where it ends. -/
def resAV (s : St) : ResultVar → Option AV
  | .tmp t => some (s.get t)
  | .cell p _ => match s.get p with
    | .ptr b 0 => match look s.bx b with
      | some (.var cs) => some (.agg cs)
      | _ => none
    | _ => none
def ress (s : St) : List ResultVar → Option (List AV)
  | [] => some []
  | x :: xs => match resAV s x, ress s xs with
    | some y, some ys => some (y :: ys)
    | _, _ => none
def oneOf : List AV → AV
  | [x] => x
  | xs => .tup xs
/-- The result cells' types are aggregates, and as large as what they hold. -/
def resTys (P : Program) (s : St) : List ResultVar → Prop
  | [] => True
  | .tmp _ :: xs => resTys P s xs
  | .cell p t :: xs => (∃ i b cs, tiOf P t = some i ∧ aggD i.desc = true ∧ s.get p = .ptr b 0 ∧ look s.bx b = some (.var cs) ∧ cs.length = i.size) ∧ resTys P s xs
theorem run_asAddr (ad : Addr) : (asAddr (.pointer (some ad))).run P w = .ok ad w := rfl
def resOp (tmps : Array Value) : ResultVar → Sem Value
  | .tmp t => pure (tmps.getD t undef)
  | .cell p t => do loadVar t (← asAddr (tmps.getD p undef))
theorem run_resultsL (h : SR cx s a w G) : ∀ (l : List ResultVar) (ys : List AV) (acc : Array Value), ress s l = some ys → resTys cx.P s l →
    ∃ vs : List Value, vs.length = ys.length ∧ (∀ (i : Nat) y v, ys[i]? = some y → vs[i]? = some v → RA G y v) ∧
      (l.foldlM (m := Sem) (fun (acc : Array Value) (x : ResultVar) => do
        let v ← resOp a.tmps x
        pure (acc.push v)) acc).run cx.P w = .ok (acc ++ vs.toArray) w
  | [], ys, acc, hr, _ => by
    obtain rfl := Option.some.inj hr
    exact ⟨[], rfl, fun i y v hy => by simp at hy, by simp [Sem.run]⟩
  | x :: l, ys, acc, hr, ht => by
    simp only [ress] at hr
    split at hr
    · rename_i y ys' h1 h2
      obtain rfl := Option.some.inj hr
      cases x with
      | tmp t =>
        obtain ⟨vs, e1, e2, e3⟩ := run_resultsL h l ys' (acc.push (a.tmps.getD t undef)) h2 ht
        refine ⟨a.tmps.getD t undef :: vs, by simp [e1], fun i y' v hy hv => ?_, ?_⟩
        · cases i with
          | zero =>
            simp at hy hv
            subst hy
            subst hv
            simp only [resAV] at h1
            obtain rfl := Option.some.inj h1
            simpa using h.tm t
          | succ i => exact e2 i y' v (by simpa using hy) (by simpa using hv)
        · have hop : (resOp a.tmps (.tmp t)).run cx.P w = .ok (a.tmps.getD t undef) w := rfl
          simp only [List.foldlM_cons, hop, Sem.run_bind, Sem.run_pure, Result.andThen_ok]
          rw [e3]
          simp
      | cell p t =>
        obtain ⟨⟨i, b, cs, t1, t2, t3, t4, t5⟩, ht⟩ := ht
        simp only [resAV, t3, t4] at h1
        obtain rfl := Option.some.inj h1
        have h6 := h.tm p
        rw [t3] at h6
        obtain ⟨k, ty, us, b1, b2, b3, b4, b5, b6⟩ := h.bx b _ t4
        have hp : a.tmps.getD p undef = .pointer (some ⟨k, 0, none⟩) := by
          generalize a.tmps.getD p undef = v at h6
          cases h6 with
          | ptr _ _ k' hk => rw [b1] at hk; obtain rfl := Option.some.inj hk; rfl
        obtain ⟨U, hU⟩ : ∃ U : Array Value, U = ((List.range i.size).map fun j => us.getD j undef).toArray := ⟨_, rfl⟩
        have hUl : U.size = cs.length := by rw [hU, t5]; simp
        have hUr : ∀ (j : Nat) x v, cs[j]? = some x → U[j]? = some v → RA G x v := fun j x v hx hv => by
          have hj : j < i.size := by rw [← t5]; exact (List.getElem?_eq_some_iff.1 hx).1
          have hj2 : j < us.size := by omega
          refine b5 j x v hx ?_
          rw [hU] at hv
          simp [hj, hj2] at hv
          rw [← hv]
          exact Array.getElem?_eq_getElem hj2
        have hload : (loadVar t ⟨k, 0, none⟩).run cx.P w = .ok (.agg U) w := by
          have hl := run_loadCells (P := cx.P) w ⟨k, 0, none⟩ i.size (fun j => us.getD j undef) (fun j hj => by
            have hj2 : j < us.size := by omega
            rw [add_spot ⟨k, 0, none⟩ rfl j]
            simp [World.cell?, b3, hj2])
          simp only [loadVar, Sem.run_bind, tiOf_agg t1 w, t2, Result.andThen_ok, if_true, tiOf_size t1 w, hl, Sem.run_pure, hU]
        obtain ⟨vs, e1, e2, e3⟩ := run_resultsL h l ys' (acc.push (.agg U)) h2 ht
        refine ⟨.agg U :: vs, by simp [e1], fun i y' v hy hv => ?_, ?_⟩
        · cases i with
          | zero =>
            simp at hy hv
            subst hy
            subst hv
            exact .agg cs U hUl hUr
          | succ i => exact e2 i y' v (by simpa using hy) (by simpa using hv)
        · have hop : (resOp a.tmps (.cell p t)).run cx.P w = .ok (.agg U) w := by
            simp only [resOp, Sem.run_bind, hp, run_asAddr, Result.andThen_ok, hload]
          simp only [List.foldlM_cons, Sem.run_bind, hop, Sem.run_pure, Result.andThen_ok]
          rw [e3]
          simp
    · cases hr
end
end Go.Proofs.YtlcmnhocicehmaaDoor.Vm

/- The value machine, seventh part: a contract out of a body, and calls by contract. Conditions: none. -/
namespace Go.Proofs.YtlcmnhocicehmaaDoor.Vm
open Go Go.RowKit
set_option linter.unusedVariables false
set_option linter.unusedSimpArgs false

section
variable {P : Program} {g : Gb} {s s1 s' : St} {cx : Cx} {a : Act} {w : World} {G : Gh}
theorem run_results (h : SR cx s a w G) {fn : Func} {ys : List AV} (hr : ress s fn.results.toList = some ys) (ht : resTys cx.P s fn.results.toList) : ∃ v, (results fn a.tmps).run cx.P w = .ok v w ∧ RA G (oneOf ys) v := by
  obtain ⟨vs, e1, e2, e3⟩ := run_resultsL h fn.results.toList ys #[] hr ht
  have hm : (results fn a.tmps).run cx.P w = .ok (if h : vs.toArray.size = 1 then vs.toArray[0] else .tuple vs.toArray) w := by
    have h0 : results fn a.tmps = (do
        let vs ← fn.results.mapM (resOp a.tmps)
        pure (if h : vs.size = 1 then vs[0] else .tuple vs)) := rfl
    rw [h0, Array.mapM_eq_foldlM, ← Array.foldlM_toList, Sem.run_bind]
    refine Eq.trans (congrArg (fun r => Result.andThen r _) e3) ?_
    simp
  refine ⟨_, hm, ?_⟩
  cases vs with
  | nil =>
    have hy : ys = [] := List.eq_nil_of_length_eq_zero (by simpa using e1.symm)
    subst hy
    exact .tup [] #[] rfl (fun i x v hx => by simp at hx)
  | cons v vs =>
    cases vs with
    | nil =>
      cases ys with
      | nil => simp at e1
      | cons y ys =>
        have hy : ys = [] := List.eq_nil_of_length_eq_zero (by simpa using e1.symm)
        subst hy
        exact e2 0 y v rfl rfl
    | cons v2 vs =>
      cases ys with
      | nil => simp at e1
      | cons y ys =>
        cases ys with
        | nil => simp at e1
        | cons y2 ys =>
          have hne : ¬ ((v :: v2 :: vs).toArray.size = 1) := by simp
          rw [dif_neg hne]
          exact .tup _ _ (by simpa using e1) (fun i x u hx hu => e2 i x u hx (by simpa using hu))

def params : Nat → List AV → List (Nat × AV)
  | _, [] => []
  | i, x :: xs => (i, x) :: params (i + 1) xs
theorem look_params : ∀ (xs : List AV) (i t : Nat), look (params i xs) t = if i ≤ t then xs[t - i]? else none
  | [], i, t => by simp [params, look]
  | x :: xs, i, t => by
    simp only [params, look_cons]
    by_cases c : i = t
    · subst c; simp
    · rw [if_neg c, look_params xs (i + 1) t]
      by_cases c2 : i ≤ t
      · rw [if_pos (by omega), if_pos c2]
        have : t - i = (t - (i + 1)) + 1 := by omega
        rw [this]
        simp
      · rw [if_neg (by omega), if_neg c2]

/-- A function's contract, out of its body. -/
theorem FnOk.mk {f : FuncId} {fn : Func} {c : Code} {args : List AV} {x : Ex} {ys : List AV} {r : AV} {bs : List (Nat × Box)} (hf : P.funcs[f]? = some fn) (hc : fn.body = some c) (hn : Nat.ble args.length fn.ntmps = true)
    (h : Runs P g c ⟨fn.ntmps, params 0 args, []⟩ x s1) (hx : x = .normal ∨ x = .ret) (hy : ress s1 fn.results.toList = some ys) (ht : resTys P s1 fn.results.toList) (hr : oneOf ys = r)
    (hle : SLe ⟨1, [(0, r)], s1.bx⟩ ⟨1, [(0, r)], bs⟩) (hln : g.ln = []) : FnOk P g f args r bs := by
  intro w vals dat hdat hsz hvals hglo
  obtain ⟨gf, gl⟩ := g
  obtain rfl : gl = [] := hln
  refine calls_of_wp hf hc ?_
  have hn := Nat.le_of_ble_eq_true hn
  have h0 : SR (Cx.fresh P w dat gf) ⟨fn.ntmps, params 0 args, []⟩ { tmps := vals ++ Array.replicate (fn.ntmps - vals.size) undef, defers := [] } w ⟨dat, fun _ => none, fun _ => none⟩ := by
    refine ⟨fun t => ?_, by simp; omega, rfl, hdat, fun b B hB => by simp [look] at hB, fun b k hk => by simp at hk, fun b x hx => by simp at hx, fun b b' k hk => by simp [Gh.own] at hk, BelowM.refl, ⟨fun b o hb _ => rfl, fun _ _ _ h => h⟩, hglo, rfl, fun b k h => by cases h⟩
    unfold St.get
    rw [look_params]
    simp only [Nat.zero_le, if_true, Nat.sub_zero]
    cases ha : args[t]? with
    | none => exact .any _
    | some y =>
      have hlt := (List.getElem?_eq_some_iff.1 ha).1
      have hv : (vals ++ Array.replicate (fn.ntmps - vals.size) undef).getD t undef = vals[t]'(by omega) := by
        rw [Array.getD_eq_getD_getElem?, Array.getElem?_append_left (by omega)]
        simp [show t < vals.size by omega]
      rw [hv]
      exact hvals t y _ ha (by simp [show t < vals.size by omega])
  refine Code.wp_mono ?_ (h _ _ w _ rfl rfl h0)
  rintro e a' w' ⟨he, G', hs⟩
  obtain ⟨v, e1, e2⟩ := run_results hs hy ht
  rw [hr] at e2
  have hs1 : SR (Cx.fresh P w dat gf) ⟨1, [(0, r)], s1.bx⟩ ⟨#[v], []⟩ w' G' :=
    ⟨fun t => by
      cases t with
      | zero => exact e2
      | succ t => exact .any _, rfl, rfl, hs.dat, hs.bx, hs.gb, hs.gl, hs.inj, hs.bel, hs.low, hs.glo, hs.bas⟩
  obtain ⟨G2, hs2⟩ := hle _ _ _ _ hs1
  rcases hx with rfl | rfl <;> cases e <;> simp only [Ex.is] at he
  · exact ⟨hs.df, v, e1, v, G2, rfl, hs2⟩
  · exact ⟨hs.df, v, e1, v, G2, rfl, hs2⟩

/-- Boxes under other numbers. -/
def sh1 (k : Nat) : AV → AV
  | .gl b n => .gl (b + k) n
  | .ptr b o => .ptr (b + k) o
  | .vrow b o n => .vrow (b + k) o n
  | x => x
def shs1 (k : Nat) : List AV → List AV
  | [] => []
  | x :: xs => sh1 k x :: shs1 k xs
def sh2 (k : Nat) : AV → AV
  | .agg cs => .agg (shs1 k cs)
  | .tup cs => .tup (shs1 k cs)
  | .clo f cs => .clo f (shs1 k cs)
  | x => sh1 k x
def shs2 (k : Nat) : List AV → List AV
  | [] => []
  | x :: xs => sh2 k x :: shs2 k xs
def sh3 (k : Nat) : AV → AV
  | .agg cs => .agg (shs2 k cs)
  | .tup cs => .tup (shs2 k cs)
  | .clo f cs => .clo f (shs2 k cs)
  | x => sh1 k x
def men0 (bx : List (Nat × Box)) : AV → Bool
  | .agg _ | .tup _ | .clo _ _ => false
  | x => men1 bx x
def Gh.Sh (k : Nat) (G G' : Gh) : Prop :=
  (∀ b o v, G.dat b o = some v → G'.dat b o = some v) ∧ (∀ b c, G.blk b = some c → G'.blk (b + k) = some c) ∧ (∀ b x, G.ls b = some x → G'.ls (b + k) = some x)
theorem RA.sh1 {G G' : Gh} {k : Nat} (hG : G.Sh k G') {x : AV} {v : Value} (h : RA G x v) (hm : men0 [] x = true ∨ (∀ cs, x ≠ .agg cs) ∧ (∀ cs, x ≠ .tup cs) ∧ (∀ f cs, x ≠ .clo f cs)) : RA G' (Vm.sh1 k x) v := by
  have hno : (∀ cs, x ≠ .agg cs) ∧ (∀ cs, x ≠ .tup cs) ∧ (∀ f cs, x ≠ .clo f cs) := by
    rcases hm with hm | hm
    · cases x <;> simp [men0] at hm ⊢
    · exact hm
  cases h with
  | any v => exact .any v
  | pv p v h => exact .pv p v (h.mono hG.1)
  | agg cs => exact absurd rfl (hno.1 cs)
  | tup cs => exact absurd rfl (hno.2.1 cs)
  | clo f cs => exact absurd rfl (hno.2.2 f cs)
  | gl b n v sz xs hh hb hn hp hv => exact .gl (b + k) n v sz xs hh (hG.2.2 b _ hb) hn (hp.mono hG.1) hv
  | ptr b o c hb => exact .ptr (b + k) o c (hG.2.1 b c hb)
  | vrow b o n c q hb hc => exact .vrow (b + k) o n c q (hG.2.1 b q hb) hc
  | eptr cs ad hs h => exact .eptr cs ad hs fun j x hx => let ⟨v, h1, h2⟩ := h j x hx; ⟨v, hG.1 _ _ _ h1, h2.mono hG.1⟩
/-- Flat to that depth. -/
def d0 : AV → Bool
  | .agg _ | .tup _ | .clo _ _ => false
  | _ => true
def ds0 : List AV → Bool
  | [] => true
  | x :: xs => d0 x && ds0 xs
def d1 : AV → Bool
  | .agg cs | .tup cs | .clo _ cs => ds0 cs
  | _ => true
def ds1 : List AV → Bool
  | [] => true
  | x :: xs => d1 x && ds1 xs
def d2 : AV → Bool
  | .agg cs | .tup cs | .clo _ cs => ds1 cs
  | _ => true
theorem d0_no {x : AV} (h : d0 x = true) : (∀ cs, x ≠ .agg cs) ∧ (∀ cs, x ≠ .tup cs) ∧ (∀ f cs, x ≠ .clo f cs) := by cases x <;> simp [d0] at h ⊢
theorem shs1_get {k : Nat} : ∀ (l : List AV) (i : Nat), (shs1 k l)[i]? = (l[i]?).map (Vm.sh1 k)
  | [], i => by simp [shs1]
  | x :: l, i => by cases i with
    | zero => simp [shs1]
    | succ i => simpa [shs1] using shs1_get l i
theorem shs1_len {k : Nat} : ∀ (l : List AV), (shs1 k l).length = l.length
  | [] => rfl
  | x :: l => by simp [shs1, shs1_len l]
theorem shs2_get {k : Nat} : ∀ (l : List AV) (i : Nat), (shs2 k l)[i]? = (l[i]?).map (Vm.sh2 k)
  | [], i => by simp [shs2]
  | x :: l, i => by cases i with
    | zero => simp [shs2]
    | succ i => simpa [shs2] using shs2_get l i
theorem shs2_len {k : Nat} : ∀ (l : List AV), (shs2 k l).length = l.length
  | [] => rfl
  | x :: l => by simp [shs2, shs2_len l]
theorem ds0_mem : ∀ {l : List AV}, ds0 l = true → ∀ x ∈ l, d0 x = true
  | [], _, x, hx => by simp at hx
  | y :: l, h, x, hx => by
    simp only [ds0, Bool.and_eq_true] at h
    cases hx with
    | head => exact h.1
    | tail _ hx => exact ds0_mem h.2 x hx
theorem ds1_mem : ∀ {l : List AV}, ds1 l = true → ∀ x ∈ l, d1 x = true
  | [], _, x, hx => by simp at hx
  | y :: l, h, x, hx => by
    simp only [ds1, Bool.and_eq_true] at h
    cases hx with
    | head => exact h.1
    | tail _ hx => exact ds1_mem h.2 x hx
theorem RA.sh2 {G G' : Gh} {k : Nat} (hG : G.Sh k G') {x : AV} {v : Value} (h : RA G x v) (hd : d1 x = true) : RA G' (Vm.sh2 k x) v := by
  have one : ∀ (cs : List AV) (vs : Array Value), (∀ (i : Nat) x v, cs[i]? = some x → vs[i]? = some v → RA G x v) → ds0 cs = true → ∀ (i : Nat) x v, (shs1 k cs)[i]? = some x → vs[i]? = some v → RA G' x v := by
    intro cs vs hr hds i x v hx hv
    rw [shs1_get, Option.map_eq_some_iff] at hx
    obtain ⟨y, hy, rfl⟩ := hx
    exact (hr i y v hy hv).sh1 hG (.inr (d0_no (ds0_mem hds y (List.mem_of_getElem? hy))))
  cases x with
  | agg cs => cases h with | agg _ vs hl h => exact .agg _ vs (by rw [shs1_len]; exact hl) (one cs vs h hd)
  | tup cs => cases h with | tup _ vs hl h => exact .tup _ vs (by rw [shs1_len]; exact hl) (one cs vs h hd)
  | clo f cs => cases h with | clo _ _ vs hl h => exact .clo f _ vs (by rw [shs1_len]; exact hl) (one cs vs h hd)
  | _ => exact h.sh1 hG (.inr (d0_no rfl))
theorem RA.sh3 {G G' : Gh} {k : Nat} (hG : G.Sh k G') {x : AV} {v : Value} (h : RA G x v) (hd : d2 x = true) : RA G' (Vm.sh3 k x) v := by
  have one : ∀ (cs : List AV) (vs : Array Value), (∀ (i : Nat) x v, cs[i]? = some x → vs[i]? = some v → RA G x v) → ds1 cs = true → ∀ (i : Nat) x v, (shs2 k cs)[i]? = some x → vs[i]? = some v → RA G' x v := by
    intro cs vs hr hds i x v hx hv
    rw [shs2_get, Option.map_eq_some_iff] at hx
    obtain ⟨y, hy, rfl⟩ := hx
    exact (hr i y v hy hv).sh2 hG (ds1_mem hds y (List.mem_of_getElem? hy))
  cases x with
  | agg cs => cases h with | agg _ vs hl h => exact .agg _ vs (by rw [shs2_len]; exact hl) (one cs vs h hd)
  | tup cs => cases h with | tup _ vs hl h => exact .tup _ vs (by rw [shs2_len]; exact hl) (one cs vs h hd)
  | clo f cs => cases h with | clo _ _ vs hl h => exact .clo f _ vs (by rw [shs2_len]; exact hl) (one cs vs h hd)
  | _ => exact h.sh1 hG (.inr (d0_no rfl))
def shB (k : Nat) : Box → Box
  | .var cs => .var (shs2 k cs)
  | B => B
theorem blk_sh {k : Nat} {B : Box} : (shB k B).blk = B.blk := by cases B <;> rfl
def dB : Box → Bool
  | .var cs => ds1 cs
  | _ => true
def shBs (k : Nat) : List (Nat × Box) → List (Nat × Box)
  | [] => []
  | (b, B) :: l => (b + k, shB k B) :: shBs k l
def dBs : List (Nat × Box) → Bool
  | [] => true
  | (_, B) :: l => dB B && dBs l
theorem look_append {α : Type} : ∀ (l m : List (Nat × α)) (i : Nat), look (l ++ m) i = match look l i with | some x => some x | none => look m i
  | [], m, i => by simp [look]
  | (k, x) :: l, m, i => by
    simp only [List.cons_append, look_cons]
    by_cases c : k = i
    · simp [c]
    · simp only [if_neg c]; exact look_append l m i
theorem look_shBs {k : Nat} : ∀ (l : List (Nat × Box)) (i : Nat), look (shBs k l) i = if k ≤ i then (look l (i - k)).map (shB k) else none
  | [], i => by simp [shBs, look]
  | (b, B) :: l, i => by
    simp only [shBs, look_cons]
    by_cases c : b + k = i
    · subst c; simp
    · rw [if_neg c, look_shBs l i]
      by_cases c2 : k ≤ i
      · rw [if_pos c2, if_pos c2, if_neg (by omega)]
      · rw [if_neg c2, if_neg c2]
theorem dBs_look : ∀ {l : List (Nat × Box)}, dBs l = true → ∀ b B, look l b = some B → dB B = true
  | [], _, b, B, h => by simp [look] at h
  | (c, C) :: l, hl, b, B, h => by
    simp only [dBs, Bool.and_eq_true] at hl
    rw [look_cons] at h
    by_cases e : c = b
    · rw [if_pos e] at h; obtain rfl := Option.some.inj h; exact hl.1
    · rw [if_neg e] at h; exact dBs_look hl.2 b B h
def lnFree (k : Nat) (ln : List Nat) : List (Nat × Box) → Bool
  | [] => true
  | (b, _) :: l => !inN ln (b + k) && lnFree k ln l
theorem lnFree_look {k : Nat} {ln : List Nat} : ∀ {l : List (Nat × Box)}, lnFree k ln l = true → ∀ b B, look l b = some B → inN ln (b + k) = false
  | [], _, b, B, h => by simp [look] at h
  | (c, C) :: l, hl, b, B, h => by
    simp only [lnFree, Bool.and_eq_true, Bool.not_eq_true'] at hl
    rw [look_cons] at h
    by_cases e : c = b
    · subst e; exact hl.1
    · rw [if_neg e] at h; exact lnFree_look hl.2 b B h
theorem fresh_mine {P : Program} {w : World} {dat : Nat → Nat → Option Value} {gf : Nat → Option (List PV)} {k : Nat} (h : (Cx.fresh P w dat gf).mine k) : w.heap.size ≤ k := h.elim id False.elim
/-- The numbers of the new boxes are free. -/
def freeB (k : Nat) (bx : List (Nat × Box)) : List (Nat × Box) → Bool
  | [] => true
  | (b, _) :: l => !has bx (b + k) && freeB k bx l
theorem freeB_look {k : Nat} {bx : List (Nat × Box)} : ∀ {l : List (Nat × Box)}, freeB k bx l = true → ∀ b B, look l b = some B → has bx (b + k) = false
  | [], _, b, B, h => by simp [look] at h
  | (c, C) :: l, hl, b, B, h => by
    simp only [freeB, Bool.and_eq_true, Bool.not_eq_true'] at hl
    rw [look_cons] at h
    by_cases e : c = b
    · subst e; exact hl.1
    · rw [if_neg e] at h; exact freeB_look hl.2 b B h
/-- What a callee leaves, joined to what the caller has. -/
theorem SR.join (hs : SR cx s a w G) {k : Nat} {bs : List (Nat × Box)} {r : AV} {v : Value} {w' : World} {G2 : Gh} (hk : freeB k s.bx bs = true) (hkl : lnFree k cx.g.ln bs = true) (hdr : d2 r = true) (hdb : dBs bs = true)
    (h2 : SR (Cx.fresh cx.P w G.dat cx.g.fn) ⟨1, [(0, r)], bs⟩ ⟨#[v], []⟩ w' G2) {d : Nat} (hd : d < s.n) :
    ∃ G', SR cx (St.put { s with bx := shBs k bs ++ s.bx } d (sh3 k r)) (a.put (some d) v) w' G' := by
  have hfree : ∀ b B, look bs b = some B → has s.bx (b + k) = false := fun b B h => freeB_look hk b B h
  have hhas : ∀ b B, look s.bx b = some B → has s.bx b = true := fun b B h => by simp [has, h]
  have hbase : cx.base ≤ w.heap.size := hs.basele
  have hdat : ∀ b o, b < w.heap.size → G2.dat b o = G.dat b o := fun b o hb => h2.low.1 b o hb id
  have hdle : ∀ b o u, G.dat b o = some u → G2.dat b o = some u := fun b o u hu => by rw [hdat b o (hs.dat_lt hu)]; exact hu
  obtain ⟨G', hG⟩ : ∃ G' : Gh, G' = ⟨G2.dat, fun b => if has s.bx b = true then G.blk b else if k ≤ b then G2.blk (b - k) else none, fun b => if has s.bx b = true then G.ls b else if k ≤ b then G2.ls (b - k) else none⟩ := ⟨_, rfl⟩
  have hle : G.Le G' := by
    subst hG
    refine ⟨hdle, fun b c hb => ?_, fun b sz xs hh hb => ⟨[], hh, ?_, fun _ => rfl⟩⟩
    · obtain ⟨⟨cs, h1, _⟩, _⟩ := hs.gb b c hb
      simp only [hhas b _ h1, if_true]; exact hb
    · obtain ⟨e, sz', xs', h1⟩ := hs.gl b _ hb
      simp only [hhas b _ h1, if_true, List.append_nil]; exact hb
  have hsh : G2.Sh k G' := by
    subst hG
    refine ⟨fun _ _ _ h => h, fun b c hb => ?_, fun b x hb => ?_⟩
    · obtain ⟨⟨cs, h1, _⟩, _⟩ := h2.gb b c hb
      have := hfree b _ h1
      simp [this, hb]
    · obtain ⟨e, sz, xs, h1⟩ := h2.gl b x hb
      have := hfree b _ h1
      simp [this, hb]
  have hown1 : ∀ b, has s.bx b = true → G'.own b = G.own b := fun b hb => by subst hG; simp [Gh.own, hb]
  have hown2 : ∀ b, ¬ has s.bx b = true → G'.own b = if k ≤ b then G2.own (b - k) else none := fun b hb => by
    subst hG
    by_cases c : k ≤ b
    · simp [Gh.own, hb, c]
    · simp [Gh.own, hb, c]
  have hbel : Below w.heap.size w w' := h2.bel.below
  have hv : RA G2 r v := h2.tm 0
  have h0 : SR cx { s with bx := shBs k bs ++ s.bx } a w' G' := by
    refine ⟨fun t => (hs.tm t).mono hle, hs.sz, hs.df, fun b o u hu => h2.dat b o u (by subst hG; exact hu), fun b B hB => ?_, fun b c hc => ?_, fun b x hx => ?_, fun b b' c hc hc' => ?_, hs.bel.trans (hbel.mono hbase), ⟨fun b o hb hm => ?_, fun b o v hv => by subst hG; exact hdle b o v (hs.low.2 b o v hv)⟩, fun gg cs hg => (hs.glo gg cs hg).mono hle, hs.bas⟩
    · rw [look_append, look_shBs] at hB
      by_cases c : k ≤ b ∧ ∃ B0, look bs (b - k) = some B0
      · obtain ⟨c, B0, hl⟩ := c
        rw [if_pos c, hl] at hB
        simp only [Option.map_some] at hB
        obtain rfl := Option.some.inj hB
        have hB0 := h2.bx _ _ hl
        have hdB := dBs_look hdb _ _ hl
        have heq : b - k + k = b := by omega
        cases B0 with
        | var cs =>
          obtain ⟨q, ty, vs, e1, e2, e3, e4, e5, e6⟩ := hB0
          refine ⟨q, ty, vs, by have := hsh.2.1 _ _ e1; rw [heq] at this; exact this, (by have := fresh_mine e2; exact .inl (by omega)), e3, by rw [shs2_len]; exact e4, fun i x u hx hu => ?_, fun o => by subst hG; exact e6 o⟩
          rw [shs2_get, Option.map_eq_some_iff] at hx
          obtain ⟨y, hy, rfl⟩ := hx
          exact (e5 i y u hy hu).sh2 hsh (ds1_mem hdB y (List.mem_of_getElem? hy))
        | lst e sz xs =>
          obtain ⟨hh, us, e1, e2, e3, e4, e5⟩ := hB0
          exact ⟨hh, us, by have := hsh.2.2 _ _ e1; rw [heq] at this; exact this, e2, ⟨e3.1, fun q hq => .inl (by have := fresh_mine (e3.2 q hq); omega)⟩, by subst hG; exact e4, fun q hq o ho => by subst hG; exact e5 q hq o ho⟩
        | iter s0 pos =>
          obtain ⟨q, e1, e2, e3, e4⟩ := hB0
          exact ⟨q, by have := hsh.2.1 _ _ e1; rw [heq] at this; exact this, (by have := fresh_mine e2; exact .inl (by omega)), e3, fun o => by subst hG; exact e4 o⟩
      · have hB' : look s.bx b = some B := by
          by_cases c1 : k ≤ b
          · rw [if_pos c1] at hB
            cases hl : look bs (b - k) with
            | none => rw [hl] at hB; exact hB
            | some B0 => exact absurd ⟨c1, B0, hl⟩ c
          · rw [if_neg c1] at hB; exact hB
        refine (hs.bx b B hB').keep hle (by subst hG; simp [hhas b B hB']) (fun q hq => ?_) (fun x q hx hq => ?_)
        · have hql := (hs.own_lt (hs.own_var hq)).2
          exact ⟨hbel.block q hql, fun o ho => by subst hG; show G2.dat q o = none; rw [hdat q o hql]; exact ho⟩
        · have hql := (hs.own_lt ((hs.own_lst hx).trans hq)).2
          exact ⟨hbel.block q hql, fun o ho => by subst hG; show G2.dat q o = none; rw [hdat q o hql]; exact ho⟩
    · rw [look_append, look_shBs]
      by_cases c1 : has s.bx b = true
      · have hc' : G.blk b = some c := by subst hG; simpa [c1] using hc
        obtain ⟨⟨cs, h1, hcb⟩, hln⟩ := hs.gb b c hc'
        refine ⟨?_, hln⟩
        have hno : (if k ≤ b then (look bs (b - k)).map (shB k) else none) = none := by
          by_cases c2 : k ≤ b
          · rw [if_pos c2]
            cases hl : look bs (b - k) with
            | none => rfl
            | some B0 =>
              have := hfree _ _ hl
              rw [show b - k + k = b by omega, c1] at this; cases this
          · rw [if_neg c2]
        rw [hno]
        exact ⟨cs, h1, hcb⟩
      · have hc' : k ≤ b ∧ G2.blk (b - k) = some c := by
          subst hG
          simp only [c1, Bool.false_eq_true, if_false] at hc
          by_cases c2 : k ≤ b
          · rw [if_pos c2] at hc; exact ⟨c2, hc⟩
          · rw [if_neg c2] at hc; cases hc
        obtain ⟨⟨cs, h1, hcb⟩, _⟩ := h2.gb _ c hc'.2
        rw [if_pos hc'.1, h1]
        have hz := lnFree_look hkl _ _ h1
        rw [show b - k + k = b by omega] at hz
        exact ⟨⟨_, rfl, by rw [blk_sh]; exact hcb⟩, fun k' hk' => by rw [hs.notLent rfl hz] at hk'; cases hk'⟩
    · rw [look_append, look_shBs]
      by_cases c1 : has s.bx b = true
      · have hx' : G.ls b = some x := by subst hG; simpa [c1] using hx
        obtain ⟨e, sz, xs, h1⟩ := hs.gl b x hx'
        have hno : (if k ≤ b then (look bs (b - k)).map (shB k) else none) = none := by
          by_cases c2 : k ≤ b
          · rw [if_pos c2]
            cases hl : look bs (b - k) with
            | none => rfl
            | some B0 =>
              have := hfree _ _ hl
              rw [show b - k + k = b by omega, c1] at this; cases this
          · rw [if_neg c2]
        rw [hno]
        exact ⟨e, sz, xs, h1⟩
      · have hx' : k ≤ b ∧ G2.ls (b - k) = some x := by
          subst hG
          simp only [c1, Bool.false_eq_true, if_false] at hx
          by_cases c2 : k ≤ b
          · rw [if_pos c2] at hx; exact ⟨c2, hx⟩
          · rw [if_neg c2] at hx; cases hx
        obtain ⟨e, sz, xs, h1⟩ := h2.gl _ x hx'.2
        rw [if_pos hx'.1, h1]
        exact ⟨e, sz, xs, rfl⟩
    · by_cases c1 : has s.bx b = true <;> by_cases c2 : has s.bx b' = true
      · rw [hown1 b c1] at hc; rw [hown1 b' c2] at hc'; exact hs.inj b b' c hc hc'
      · rw [hown1 b c1] at hc; rw [hown2 b' c2] at hc'
        by_cases c3 : k ≤ b'
        · rw [if_pos c3] at hc'
          have := (hs.own_lt hc).2; have h3 := fresh_mine (h2.own_lt hc').1; omega
        · rw [if_neg c3] at hc'; cases hc'
      · rw [hown2 b c1] at hc; rw [hown1 b' c2] at hc'
        by_cases c3 : k ≤ b
        · rw [if_pos c3] at hc
          have := (hs.own_lt hc').2; have h3 := fresh_mine (h2.own_lt hc).1; omega
        · rw [if_neg c3] at hc; cases hc
      · rw [hown2 b c1] at hc; rw [hown2 b' c2] at hc'
        by_cases c3 : k ≤ b
        · by_cases c4 : k ≤ b'
          · rw [if_pos c3] at hc; rw [if_pos c4] at hc'
            have := h2.inj _ _ c hc hc'; omega
          · rw [if_neg c4] at hc'; cases hc'
        · rw [if_neg c3] at hc; cases hc
    · subst hG
      show G2.dat b o = _
      rw [hdat b o (by omega)]
      exact hs.low.1 b o hb hm
  exact ⟨G', h0.put (s := { s with bx := shBs k bs ++ s.bx }) hd (hv.sh3 hsh hdr)⟩

/-- The arguments as the contract wants them: no box in them. -/
def closed : List AV → Bool
  | [] => true
  | x :: xs => men3 [] x && closed xs
theorem closed_mem : ∀ {l : List AV}, closed l = true → ∀ x ∈ l, men3 [] x = true
  | [], _, x, hx => by simp at hx
  | y :: l, h, x, hx => by
    simp only [closed, Bool.and_eq_true] at h
    cases hx with
    | head => exact h.1
    | tail _ hx => exact closed_mem h.2 x hx
theorem OpOk.call {d : Tmp} {f : FuncId} {fn : Func} {xs : Array Operand} {ts : Array TypeId} {ty : TypeId} {pos : String} {after : Array Edge} {gd : Option (Nat × Bool)} {args : List AV} {r : AV} {bs : List (Nat × Box)} (k : Nat)
    (hc : FnOk P g f args r bs) (hf : P.funcs[f]? = some fn) (hname : (fn.name == "runtime.NumGoroutine") = false) (hb : fn.body.isSome = true) (hargs : AVles s (xs.toList.map (s.ev g)) args) (hcl : closed args = true)
    (hk : freeB k s.bx bs = true) (hkl : lnFree k g.ln bs = true) (hdr : d2 r = true) (hdb : dBs bs = true) (hd : d < s.n) :
    OpOk P g ⟨some d, .call { callee := .value (.func f), args := xs, argTypes := ts }, ty, pos, after, gd⟩ s (St.put { s with bx := shBs k bs ++ s.bx } d (sh3 k r)) := by
  intro cx a w G hP hg hs K Q hK
  have hrun : (execOp a.eval ⟨some d, .call { callee := .value (.func f), args := xs, argTypes := ts }, ty, pos, after, gd⟩).run P w = .ok (.enter f (xs.map a.eval)) w := by
    have hnb : fn.body ≠ none := fun e => by rw [e] at hb; cases hb
    have hne : fn.name ≠ "runtime.NumGoroutine" := fun e => by simp [e] at hname
    simp [execOp, resolve, Act.eval, Deferred.ofValue, invoke, callFunc, program, Sem.run_bind, Sem.run, hf, hne, hnb, Result.andThen]
  unfold Oper.wp
  rw [hrun]
  subst hP
  subst hg
  obtain ⟨hl, hle⟩ := hargs.get
  have hvals : ∀ (i : Nat) x v, args[i]? = some x → (xs.map a.eval)[i]? = some v → RA ⟨G.dat, fun _ => none, fun _ => none⟩ x v := by
    intro i x v hx hv
    rw [Array.getElem?_map, Option.map_eq_some_iff] at hv
    obtain ⟨y, hy, rfl⟩ := hv
    have h1 := hle i (s.ev cx.g y) x (by simp [hy]) hx
    have h2 := hs.le h1 (hs.ev rfl y)
    exact RA.agree (h := h2) (G := G) (G' := ⟨G.dat, fun _ => none, fun _ => none⟩) (D := has []) (fun _ _ _ h => h) (fun b k hD => by simp [has, look] at hD) (fun b x hD => by simp [has, look] at hD) (men3_ok (closed_mem hcl x (List.mem_of_getElem? hx)))
  have hglo : ∀ k cs, cx.g.fn k = some cs → RA ⟨G.dat, fun _ => none, fun _ => none⟩ (.eptr cs) (.pointer (some ⟨k, 0, none⟩)) := fun k cs hg =>
    RA.agree (h := hs.glo k cs hg) (G := G) (G' := ⟨G.dat, fun _ => none, fun _ => none⟩) (D := has []) (fun _ _ _ h => h) (fun b k hD => by simp [has, look] at hD) (fun b x hD => by simp [has, look] at hD) (.eptr cs)
  refine Calls.mono (hc w (xs.map a.eval) G.dat hs.dat (by simpa using hl) hvals hglo) ?_
  rintro e w' ⟨v, G2, rfl, h2⟩
  obtain ⟨G', h3⟩ := hs.join hk hkl hdr hdb h2 hd
  exact hK _ _ G' h3
end
end Go.Proofs.YtlcmnhocicehmaaDoor.Vm
