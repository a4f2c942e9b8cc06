/- The value machine, joined: part 3 of 4. Conditions: none. -/
import Derived.Test.YtlcmnhocicehmaaDoorVm2
import Derived.Shelf.Unicode.DecodeSlow
/- The value machine, fourteenth part: the rules for regions whose order is drawn. Conditions: none. -/
namespace Go.Proofs.YtlcmnhocicehmaaDoor.Vm
open Go Go.RowKit
set_option linter.unusedVariables false
set_option linter.unusedSimpArgs false

inductive Recs (P : Program) (g : Gb) (ops : Array Oper) : List Oper → St → List Rec → St → Prop
  | nil (s : St) : Recs P g ops [] s [] s
  | cons {o : Oper} {l : List Oper} {s s' : St} {r : Rec} {rs : List Rec} (h : RecOk P g ops o r) (hm : r.Met s) (t : Recs P g ops l (r.app s) rs s') : Recs P g ops (o :: l) s (r :: rs) s'
section
variable {P : Program} {g : Gb} {ops : Array Oper}
theorem Recs.get {l : List Oper} {s s' : St} {rs : List Rec} (h : Recs P g ops l s rs s') : rs.length = l.length ∧ (∀ (i : Nat) o r, l[i]? = some o → rs[i]? = some r → RecOk P g ops o r) ∧ Canon s rs ∧ ∀ k, stOf (fun _ => true) k rs s = s' := by
  induction h with
  | nil s => exact ⟨rfl, fun i o r h => by simp at h, trivial, fun k => rfl⟩
  | cons h hm t ih =>
    obtain ⟨e1, e2, e3, e4⟩ := ih
    refine ⟨by simp [e1], fun i o r ho hr => ?_, ⟨hm, e3⟩, fun k => ?_⟩
    · cases i with
      | zero => simp at ho hr; subst ho; subst hr; exact h
      | succ i => exact e2 i o r (by simpa using ho) (by simpa using hr)
    · simp only [stOf, if_true]; exact e4 (k + 1)
/-- What is left of a region whose order is drawn; what was met is kept in the order met. -/
def Dr (P : Program) (g : Gb) (ops : Array Oper) (l : List Oper) (s : St) (Θ : List Rec → St → Prop) : Prop := ∃ rs s', Recs P g ops l s rs s' ∧ Θ rs s'
theorem Dr.nil {s : St} {Θ : List Rec → St → Prop} (h : Θ [] s) : Dr P g ops [] s Θ := ⟨[], s, .nil s, h⟩
theorem Dr.cons {o : Oper} {l : List Oper} {s : St} {r : Rec} {Θ : List Rec → St → Prop} (h : RecOk P g ops o r) (hm : r.Met s) (t : Dr P g ops l (r.app s) (fun rs => Θ (r :: rs))) : Dr P g ops (o :: l) s Θ :=
  let ⟨rs, s', h1, h2⟩ := t; ⟨r :: rs, s', .cons h hm h1, h2⟩
theorem Run.draw {id : Nat} {l : List Oper} {s : St} {Φ : Ex → St → Prop} (hm : P.follows .mixedOrders = true) (hed : edgesOk 0 l = true) (h : Dr P g l.toArray l s (fun rs s' => apartAll (masks [] l) rs 0 rs = true ∧ Φ .normal s')) : Run P g (.region id l.toArray true) s Φ := by
  obtain ⟨rs, s', h1, h2, h3⟩ := h
  obtain ⟨e1, e2, e3, e4⟩ := h1.get
  have := Runs.draw (id := id) hm e1 e2 e3 hed h2
  rw [e4 0] at this
  exact ⟨_, _, this, h3⟩
end

/-- The slot that an operand is. -/
def rtOf (y : Operand) (x : AV) : List (Nat × AV) :=
  match y with
  | .tmp t => [(t, x)]
  | _ => []
def rbOf (bx : List (Nat × Box)) : AV → List (Nat × Box)
  | .ptr b _ | .gl b _ => match look bx b with
    | some B => [(b, B)]
    | none => []
  | _ => []
section
variable {E : Env} {n : Nat} {tm : List (Nat × AV)} {bx : List (Nat × Box)} {ops : Array Oper} {l : List Oper} {Θ : List Rec → St → Prop} {d : Tmp} {ty : TypeId} {pos : String} {after : Array Edge}
theorem rt_now {y : Operand} {x : AV} (h : evO E tm y = some x) : ∀ p ∈ rtOf y x, look tm p.1 = some p.2 := by
  intro p hp
  cases y <;> simp only [rtOf, List.not_mem_nil, List.mem_singleton] at hp <;> try cases hp
  exact h
theorem rt_ev {y : Operand} {x : AV} (h : evO E tm y = some x) {s : St} (hs : ∀ p ∈ rtOf y x, look s.tm p.1 = some p.2) : evO E s.tm y = some x := by
  cases y with
  | tmp t => exact hs (t, x) (by simp [rtOf])
  | const v => exact h
  | global k => exact h
  | func f => exact h
theorem rb_now {z : AV} : ∀ p ∈ rbOf bx z, look bx p.1 = some p.2 := by
  intro p hp
  cases z <;> simp only [rbOf, List.not_mem_nil] at hp <;> try cases hp
  all_goals
    split at hp
    · rename_i B hB; simp at hp; subst hp; exact hB
    · simp at hp
theorem rb_cells {z : AV} {cs : List AV} (h : cellsO bx z = some cs) {s : St} (hs : ∀ p ∈ rbOf bx z, look s.bx p.1 = some p.2) : cellsO s.bx z = some cs := by
  cases z with
  | ptr b o =>
    simp only [cellsO] at h
    split at h
    · rename_i cs0 hb
      have := hs (b, .var cs0) (by simp [rbOf, hb])
      simp only [cellsO, this]; exact h
    · cases h
  | eptr cs0 => exact h
  | _ => cases h
theorem rb_lst {z : AV} {q : Nat × List PV} (h : lstO bx z = some q) (hn : newest bx z) {s : St} (hs : ∀ p ∈ rbOf bx z, look s.bx p.1 = some p.2) : lstO s.bx z = some q ∧ newest s.bx z := by
  cases z with
  | pv p =>
    refine ⟨?_, trivial⟩
    cases p <;> simp only [lstO] at h ⊢ <;> first | exact h | cases h
  | gl b m =>
    simp only [lstO] at h
    split at h
    · rename_i e sz xs hb
      have := hs (b, .lst e sz xs) (by simp [rbOf, hb])
      refine ⟨by simp only [lstO, this]; exact h, newest_gl this (hn e sz xs hb)⟩
    · cases h
  | _ => cases h
theorem met_mk {r : Rec} {s : St} (h1 : ∀ p ∈ r.rt, look s.tm p.1 = some p.2) (h2 : ∀ p ∈ r.rb, look s.bx p.1 = some p.2) (h3 : ∀ b ∈ r.nb, look s.bx b = none) (h4 : dstOk r.d s.n = true) : r.Met s := ⟨h1, h2, h3, dlt h4⟩
theorem none_met : ∀ p ∈ ([] : List (Nat × Box)), look bx p.1 = some p.2 := fun p h => by simp at h
theorem none_new : ∀ b ∈ ([] : List Nat), look bx b = none := fun b h => by simp at h
theorem mem_l {α : Type} {p : α} {a b : List α} (h : p ∈ a) : p ∈ a ++ b := List.mem_append_left _ h
theorem mem_r {α : Type} {p : α} {a b : List α} (h : p ∈ b) : p ∈ a ++ b := List.mem_append_right _ h

theorem D.move {y : Operand} {x : AV} (hx : evO E tm y = some x) (hd : Nat.blt d n = true) (h : Dr E.P E.g ops l ⟨n, (d, x) :: tm, bx⟩ (fun rs => Θ (⟨rtOf y x, [], [], some d, x, []⟩ :: rs))) : Dr E.P E.g ops (⟨some d, .move y, ty, pos, after, none⟩ :: l) ⟨n, tm, bx⟩ Θ :=
  Dr.cons (r := ⟨rtOf y x, [], [], some d, x, []⟩) (.plain rfl rfl fun s hs => OpOk.move (s := s) (evO_ok (n := s.n) (bx := s.bx) (rt_ev hx hs.t)) hs.d) (met_mk (rt_now hx) none_met none_new hd) h
theorem D.assign {y : Operand} {x : AV} (hx : evO E tm y = some x) (hd : Nat.blt d n = true) (h : Dr E.P E.g ops l ⟨n, (d, x) :: tm, bx⟩ (fun rs => Θ (⟨rtOf y x, [], [], some d, x, []⟩ :: rs))) : Dr E.P E.g ops (⟨some d, .assign y, ty, pos, after, none⟩ :: l) ⟨n, tm, bx⟩ Θ :=
  Dr.cons (r := ⟨rtOf y x, [], [], some d, x, []⟩) (.plain rfl rfl fun s hs => OpOk.assign (s := s) (evO_ok (n := s.n) (bx := s.bx) (rt_ev hx hs.t)) hs.d) (met_mk (rt_now hx) none_met none_new hd) h
/-- An operation that one rule takes from any state with these slots and boxes to that. -/
theorem D.of {op : Op} {x : AV} {rt : List (Nat × AV)} {rb : List (Nat × Box)} (h1 : ∀ p ∈ rt, look tm p.1 = some p.2) (h2 : ∀ p ∈ rb, look bx p.1 = some p.2) (hd : Nat.blt d n = true)
    (hl : ∀ s : St, (∀ p ∈ rt, look s.tm p.1 = some p.2) → (∀ p ∈ rb, look s.bx p.1 = some p.2) → d < s.n → OpOk E.P E.g ⟨some d, op, ty, pos, after, none⟩ s (s.put d x))
    (h : Dr E.P E.g ops l ⟨n, (d, x) :: tm, bx⟩ (fun rs => Θ (⟨rt, rb, [], some d, x, []⟩ :: rs))) : Dr E.P E.g ops (⟨some d, op, ty, pos, after, none⟩ :: l) ⟨n, tm, bx⟩ Θ :=
  Dr.cons (r := ⟨rt, rb, [], some d, x, []⟩) (.plain rfl rfl fun s hs => hl s hs.t hs.b (hs.d d rfl)) (met_mk h1 h2 none_new hd) h
theorem D.bin {b : BinOp} {t t' : TypeId} {y z : Operand} {p q : PV} {u u' v : Value} {x : AV} (hy : evO E tm y = some (.pv p)) (hz : evO E tm z = some (.pv q)) (hp : p.val? = some u) (hq : q.val? = some u') (hn : Vm.now E.P (do eqGuard b t y z u u'; Go.binOp b t u u') = some v) (hx : AV.ofVal v = some x) (hd : Nat.blt d n = true)
    (h : Dr E.P E.g ops l ⟨n, (d, x) :: tm, bx⟩ (fun rs => Θ (⟨rtOf y (.pv p) ++ rtOf z (.pv q), [], [], some d, x, []⟩ :: rs))) : Dr E.P E.g ops (⟨some d, .binOp b t y z t', ty, pos, after, none⟩ :: l) ⟨n, tm, bx⟩ Θ := by
  refine D.of (rt := rtOf y (.pv p) ++ rtOf z (.pv q)) (rb := []) (fun w hw => ?_) none_met hd (fun s hs _ hd' => ?_) h
  · rcases List.mem_append.1 hw with hw | hw
    · exact rt_now hy w hw
    · exact rt_now hz w hw
  · refine OpOk.val (o := ⟨some d, .binOp b t y z t', ty, pos, after, none⟩) (s := s) (fun t ht => by obtain rfl := Option.some.inj ht; exact hd') (fun cx a w G hP hg hs' => ⟨v, ?_, RA.ofVal hx⟩)
    have h1 := hs'.ev hg y
    have h2 := hs'.ev hg z
    rw [evO_ok (n := s.n) (bx := s.bx) (rt_ev hy (fun p hp => hs p (mem_l hp)))] at h1
    rw [evO_ok (n := s.n) (bx := s.bx) (rt_ev hz (fun p hp => hs p (mem_r hp)))] at h2
    have e1 : a.eval y = u := h1.of_val hp
    have e2 : a.eval z = u' := h2.of_val hq
    have := now_run _ w hn
    simp only [execOp, e1, e2]
    rw [Sem.run_bind (P := E.P) (w := w)]
    refine Eq.trans (congrArg (fun r => Result.andThen r _) this) ?_
    rfl
theorem D.conv {sr t : TypeId} {y : Operand} {k k' : IntKind} {m : Int} {i is : TI} (hE : E.Ok) (hs0 : E.T sr = some is) (ht : E.T t = some i) (hk : i.desc = .int k') (hy : evO E tm y = some (.pv (.int k m))) (hd : Nat.blt d n = true)
    (h : Dr E.P E.g ops l ⟨n, (d, .pv (.int k' (k'.wrap m))) :: tm, bx⟩ (fun rs => Θ (⟨rtOf y (.pv (.int k m)), [], [], some d, .pv (.int k' (k'.wrap m)), []⟩ :: rs))) : Dr E.P E.g ops (⟨some d, .convert sr t y, ty, pos, after, none⟩ :: l) ⟨n, tm, bx⟩ Θ := by
  refine D.of (rt := rtOf y (.pv (.int k m))) (rb := []) (rt_now hy) none_met hd (fun s hs _ hd' => ?_) h
  refine OpOk.val (o := ⟨some d, .convert sr t y, ty, pos, after, none⟩) (s := s) (fun t ht => by obtain rfl := Option.some.inj ht; exact hd') (fun cx a w G hP hg hs' => ⟨.int k' (k'.wrap m), ?_, .pv _ _ (.int _ _)⟩)
  have h1 := hs'.ev hg y
  rw [evO_ok (n := s.n) (bx := s.bx) (rt_ev hy hs)] at h1
  obtain ⟨ds, u1, _⟩ := tiOf_und (hE.t _ _ hs0)
  have u2 := tiOf_int (hE.t _ _ ht) hk
  have : (convert sr t (.int k m)).run E.P w = .ok (.int k' (k'.wrap m)) w := by
    unfold convert
    rw [Sem.run_bind, run_underlying u1 w]
    simp only [Result.andThen_ok]
    rw [Sem.run_bind, run_underlying u2 w]
    simp only [Result.andThen_ok]
    rfl
  simp only [execOp, h1.int, Sem.run_bind, this, Result.andThen_ok, Sem.run_pure]
theorem D.load {t : TypeId} {y : Operand} {i : TI} {z x : AV} {cs : List AV} (hE : E.Ok) (ht : E.T t = some i) (hy : evO E tm y = some z) (hc : cellsO bx z = some cs) (hx : loadO i cs = some x) (hd : Nat.blt d n = true)
    (h : Dr E.P E.g ops l ⟨n, (d, x) :: tm, bx⟩ (fun rs => Θ (⟨rtOf y z, rbOf bx z, [], some d, x, []⟩ :: rs))) : Dr E.P E.g ops (⟨some d, .load t y, ty, pos, after, none⟩ :: l) ⟨n, tm, bx⟩ Θ :=
  D.of (rt := rtOf y z) (rb := rbOf bx z) (rt_now hy) rb_now hd (fun s hs hb hd' => OpOk.load (s := s) (hE.t _ _ ht) (evO_ok (n := s.n) (bx := s.bx) (rt_ev hy hs)) (cellsO_ok (n := s.n) (tm := s.tm) (rb_cells hc hb)) (loadO_ok hx) (fun t ht => by obtain rfl := Option.some.inj ht; exact hd')) h
theorem D.field {t : TypeId} {y : Operand} {f : Nat} {ls : List (Nat × Nat)} {k m : Nat} {z x : AV} (hE : E.Ok) (hl : E.L t = some ls) (hf : ls[f]? = some (k, m + 1)) (hy : evO E tm y = some z) (hx : offO k z = some x) (hd : Nat.blt d n = true)
    (h : Dr E.P E.g ops l ⟨n, (d, x) :: tm, bx⟩ (fun rs => Θ (⟨rtOf y z, [], [], some d, x, []⟩ :: rs))) : Dr E.P E.g ops (⟨some d, .fieldAddr t y f, ty, pos, after, none⟩ :: l) ⟨n, tm, bx⟩ Θ :=
  D.of (rt := rtOf y z) (rb := []) (rt_now hy) none_met hd (fun s hs _ hd' => OpOk.fieldAddr (s := s) (hE.l _ _ hl) hf (evO_ok (n := s.n) (bx := s.bx) (rt_ev hy hs)) (offO_ok hx) (fun t ht => by obtain rfl := Option.some.inj ht; exact hd')) h
theorem D.indexA {t e : TypeId} {y ix : Operand} {i ie : TI} {z x : AV} {len : Nat} {k : IntKind} {m : Int} {o : Nat} (hE : E.Ok) (ht : E.T t = some i) (hk : i.desc = .arr len e) (he : E.T e = some ie) (hy : evO E tm y = some z) (hix : evO E tm ix = some (.pv (.int k m))) (h0 : 0 ≤ m) (hm : m < len) (ho : m.toNat * ie.size = o) (hx : z.off o = some x) (hd : Nat.blt d n = true)
    (h : Dr E.P E.g ops l ⟨n, (d, x) :: tm, bx⟩ (fun rs => Θ (⟨rtOf y z ++ rtOf ix (.pv (.int k m)), [], [], some d, x, []⟩ :: rs))) : Dr E.P E.g ops (⟨some d, .indexAddr t y ix, ty, pos, after, none⟩ :: l) ⟨n, tm, bx⟩ Θ := by
  refine D.of (rt := rtOf y z ++ rtOf ix (.pv (.int k m))) (rb := []) (fun w hw => ?_) none_met hd (fun s hs _ hd' => ?_) h
  · rcases List.mem_append.1 hw with hw | hw
    · exact rt_now hy w hw
    · exact rt_now hix w hw
  · exact OpOk.indexArr (s := s) (hE.t _ _ ht) hk (hE.t _ _ he) (evO_ok (n := s.n) (bx := s.bx) (rt_ev hy (fun p hp => hs p (mem_l hp)))) (evO_ok (n := s.n) (bx := s.bx) (rt_ev hix (fun p hp => hs p (mem_r hp)))) h0 hm ho hx (fun t ht => by obtain rfl := Option.some.inj ht; exact hd')
theorem D.index {t e : TypeId} {y ix : Operand} {i ie : TI} {z : AV} {q : Nat × List PV} {k : IntKind} {m : Int} {el : PV} {cs : List PV} (hE : E.Ok) (ht : E.T t = some i) (hk : i.desc = .slc e) (he : E.T e = some ie) (hy : evO E tm y = some z) (hl : lstO bx z = some q) (hn : newest bx z) (hix : evO E tm ix = some (.pv (.int k m)))
    (h0 : 0 ≤ m) (hel : q.2[m.toNat]? = some el) (hsz : q.1 = ie.size) (hcs : el.cells = cs) (hd : Nat.blt d n = true)
    (h : Dr E.P E.g ops l ⟨n, (d, .eptr cs) :: tm, bx⟩ (fun rs => Θ (⟨rtOf y z ++ rtOf ix (.pv (.int k m)), rbOf bx z, [], some d, .eptr cs, []⟩ :: rs))) : Dr E.P E.g ops (⟨some d, .indexAddr t y ix, ty, pos, after, none⟩ :: l) ⟨n, tm, bx⟩ Θ := by
  refine D.of (rt := rtOf y z ++ rtOf ix (.pv (.int k m))) (rb := rbOf bx z) (fun w hw => ?_) rb_now hd (fun s hs hb hd' => ?_) h
  · rcases List.mem_append.1 hw with hw | hw
    · exact rt_now hy w hw
    · exact rt_now hix w hw
  · obtain ⟨k1, k2⟩ := rb_lst hl hn hb
    exact OpOk.indexLst (s := s) (hE.t _ _ ht) hk (hE.t _ _ he) (evO_ok (n := s.n) (bx := s.bx) (rt_ev hy (fun p hp => hs p (mem_l hp)))) (lstO_ok (n := s.n) (tm := s.tm) k1 k2) (evO_ok (n := s.n) (bx := s.bx) (rt_ev hix (fun p hp => hs p (mem_r hp)))) h0 hel hsz hcs (fun t ht => by obtain rfl := Option.some.inj ht; exact hd')
theorem D.indexS {t : TypeId} {y ix : Operand} {i : TI} {b : ByteArray} {k : IntKind} {m : Int} {c : UInt8} (hE : E.Ok) (ht : E.T t = some i) (hk : i.desc = .strg) (hy : evO E tm y = some (.pv (.str b))) (hix : evO E tm ix = some (.pv (.int k m))) (h0 : 0 ≤ m) (hc : b[m.toNat]? = some c) (hd : Nat.blt d n = true)
    (h : Dr E.P E.g ops l ⟨n, (d, .pv (.int .u8 c.toNat)) :: tm, bx⟩ (fun rs => Θ (⟨rtOf y (.pv (.str b)) ++ rtOf ix (.pv (.int k m)), [], [], some d, .pv (.int .u8 c.toNat), []⟩ :: rs))) : Dr E.P E.g ops (⟨some d, .index t y ix, ty, pos, after, none⟩ :: l) ⟨n, tm, bx⟩ Θ := by
  refine D.of (rt := rtOf y (.pv (.str b)) ++ rtOf ix (.pv (.int k m))) (rb := []) (fun w hw => ?_) none_met hd (fun s hs _ hd' => ?_) h
  · rcases List.mem_append.1 hw with hw | hw
    · exact rt_now hy w hw
    · exact rt_now hix w hw
  · exact OpOk.indexStr (s := s) (hE.t _ _ ht) hk (evO_ok (n := s.n) (bx := s.bx) (rt_ev hy (fun p hp => hs p (mem_l hp)))) (evO_ok (n := s.n) (bx := s.bx) (rt_ev hix (fun p hp => hs p (mem_r hp)))) h0 hc (fun t ht => by obtain rfl := Option.some.inj ht; exact hd')
theorem D.lenLst {t e : TypeId} {y : Operand} {i : TI} {z : AV} {q : Nat × List PV} (hE : E.Ok) (ht : E.T t = some i) (hk : i.desc = .slc e) (hy : evO E tm y = some z) (hl : lstO bx z = some q) (hn : newest bx z) (hd : Nat.blt d n = true)
    (h : Dr E.P E.g ops l ⟨n, (d, .pv (.int .i64 q.2.length)) :: tm, bx⟩ (fun rs => Θ (⟨rtOf y z, rbOf bx z, [], some d, .pv (.int .i64 q.2.length), []⟩ :: rs))) : Dr E.P E.g ops (⟨some d, .call { callee := .builtin .len, args := #[y], argTypes := #[t] }, ty, pos, after, none⟩ :: l) ⟨n, tm, bx⟩ Θ := by
  refine D.of (rt := rtOf y z) (rb := rbOf bx z) (rt_now hy) rb_now hd (fun s hs hb hd' => ?_) h
  obtain ⟨k1, k2⟩ := rb_lst hl hn hb
  exact OpOk.lenLst (s := s) (hE.t _ _ ht) hk (evO_ok (n := s.n) (bx := s.bx) (rt_ev hy hs)) (lstO_ok (n := s.n) (tm := s.tm) k1 k2) rfl (fun t ht => by obtain rfl := Option.some.inj ht; exact hd')
theorem D.lenStr {t : TypeId} {y : Operand} {i : TI} {b : ByteArray} (hE : E.Ok) (ht : E.T t = some i) (hk : i.desc = .strg) (hy : evO E tm y = some (.pv (.str b))) (hd : Nat.blt d n = true)
    (h : Dr E.P E.g ops l ⟨n, (d, .pv (.int .i64 b.size)) :: tm, bx⟩ (fun rs => Θ (⟨rtOf y (.pv (.str b)), [], [], some d, .pv (.int .i64 b.size), []⟩ :: rs))) : Dr E.P E.g ops (⟨some d, .call { callee := .builtin .len, args := #[y], argTypes := #[t] }, ty, pos, after, none⟩ :: l) ⟨n, tm, bx⟩ Θ :=
  D.of (rt := rtOf y (.pv (.str b))) (rb := []) (rt_now hy) none_met hd (fun s hs _ hd' => OpOk.lenStr (s := s) (hE.t _ _ ht) hk (evO_ok (n := s.n) (bx := s.bx) (rt_ev hy hs)) rfl (fun t ht => by obtain rfl := Option.some.inj ht; exact hd')) h
theorem D.extract {y : Operand} {j : Nat} {xs : List AV} {x : AV} (hy : evO E tm y = some (.tup xs)) (hx : xs[j]? = some x) (hd : Nat.blt d n = true)
    (h : Dr E.P E.g ops l ⟨n, (d, x) :: tm, bx⟩ (fun rs => Θ (⟨rtOf y (.tup xs), [], [], some d, x, []⟩ :: rs))) : Dr E.P E.g ops (⟨some d, .extract y j, ty, pos, after, none⟩ :: l) ⟨n, tm, bx⟩ Θ :=
  D.of (rt := rtOf y (.tup xs)) (rb := []) (rt_now hy) none_met hd (fun s hs _ hd' => OpOk.extract (s := s) (evO_ok (n := s.n) (bx := s.bx) (rt_ev hy hs)) hx (fun t ht => by obtain rfl := Option.some.inj ht; exact hd')) h
theorem D.pick {c y z : Operand} {b : Bool} {u v x : AV} (hc : evO E tm c = some (.pv (.bool b))) (hy : evO E tm y = some u) (hz : evO E tm z = some v) (hx : (match b with | true => some u | false => some v) = some x) (hd : Nat.blt d n = true)
    (h : Dr E.P E.g ops l ⟨n, (d, x) :: tm, bx⟩ (fun rs => Θ (⟨rtOf c (.pv (.bool b)) ++ (rtOf y u ++ rtOf z v), [], [], some d, x, []⟩ :: rs))) : Dr E.P E.g ops (⟨some d, .pick c y z, ty, pos, after, none⟩ :: l) ⟨n, tm, bx⟩ Θ := by
  refine D.of (rt := rtOf c (.pv (.bool b)) ++ (rtOf y u ++ rtOf z v)) (rb := []) (fun w hw => ?_) none_met hd (fun s hs _ hd' => ?_) h
  · rcases List.mem_append.1 hw with hw | hw
    · exact rt_now hc w hw
    · rcases List.mem_append.1 hw with hw | hw
      · exact rt_now hy w hw
      · exact rt_now hz w hw
  · exact OpOk.pick (s := s) (evO_ok (n := s.n) (bx := s.bx) (rt_ev hc (fun p hp => hs p (mem_l hp)))) (by rw [evO_ok (n := s.n) (bx := s.bx) (rt_ev hy (fun p hp => hs p (mem_r (mem_l hp)))), evO_ok (n := s.n) (bx := s.bx) (rt_ev hz (fun p hp => hs p (mem_r (mem_r hp))))]; cases b <;> exact Option.some.inj hx) (fun t ht => by obtain rfl := Option.some.inj ht; exact hd')
theorem D.box {t : TypeId} {y : Operand} {z : AV} {cs : List AV} (b : Nat) (hy : evO E tm y = some z) (hc : z.cells? = some cs) (hb : look bx b = none) (hd : Nat.blt d n = true)
    (h : Dr E.P E.g ops l ⟨n, (d, .ptr b 0) :: tm, (b, .var cs) :: bx⟩ (fun rs => Θ (⟨rtOf y z, [], [b], some d, .ptr b 0, [(b, .var cs)]⟩ :: rs))) (hln : inN E.g.ln b = false := by rfl) : Dr E.P E.g ops (⟨some d, .box t y, ty, pos, after, none⟩ :: l) ⟨n, tm, bx⟩ Θ :=
  Dr.cons (r := ⟨rtOf y z, [], [b], some d, .ptr b 0, [(b, .var cs)]⟩) (.plain rfl rfl fun s hs => OpOk.box (s := s) b (evO_ok (n := s.n) (bx := s.bx) (rt_ev hy hs.t)) hc (hs.n b (by simp)) hln (hs.d d rfl)) (met_mk (rt_now hy) none_met (fun c hc => by simp at hc; subst hc; exact hb) hd) h
theorem D.alloc {t : TypeId} {i : TI} {cs : List AV} (hE : E.Ok) (b : Nat) (ht : E.T t = some i) (hc : pvsO i.zero = some cs) (hb : look bx b = none) (hd : Nat.blt d n = true)
    (h : Dr E.P E.g ops l ⟨n, (d, .ptr b 0) :: tm, (b, .var cs) :: bx⟩ (fun rs => Θ (⟨[], [], [b], some d, .ptr b 0, [(b, .var cs)]⟩ :: rs))) (hln : inN E.g.ln b = false := by rfl) : Dr E.P E.g ops (⟨some d, .alloc t, ty, pos, after, none⟩ :: l) ⟨n, tm, bx⟩ Θ := by
  have hc' := pvsO_ok _ _ hc
  exact Dr.cons (r := ⟨[], [], [b], some d, .ptr b 0, [(b, .var cs)]⟩) (.plain rfl rfl fun s hs => by
    have := OpOk.alloc (s := s) (g := E.g) (ty := ty) (pos := pos) (after := after) (gd := none) b (hE.t _ _ ht) (hs.n b (by simp)) hln (hs.d d rfl)
    rw [← hc'] at this
    exact this) (met_mk (fun p hp => by simp at hp) none_met (fun c hc => by simp at hc; subst hc; exact hb) hd) h
theorem D.store {t : TypeId} {y x : Operand} {i : TI} {b o : Nat} {z : AV} {cs ys cs' : List AV} (hE : E.Ok) (ht : E.T t = some i) (hy : evO E tm y = some (.ptr b o)) (hx : evO E tm x = some z) (hz : z.cells? = some ys) (hb : look bx b = some (.var cs)) (hn : Nat.beq ys.length i.size = true) (hcs : setO cs o ys = some cs')
    (h : Dr E.P E.g ops l ⟨n, tm, (b, .var cs') :: bx⟩ (fun rs => Θ (⟨rtOf y (.ptr b o) ++ rtOf x z, [(b, .var cs)], [], none, .any, [(b, .var cs')]⟩ :: rs))) : Dr E.P E.g ops (⟨none, .store t y x, ty, pos, after, none⟩ :: l) ⟨n, tm, bx⟩ Θ := by
  obtain ⟨e1, e2⟩ := setO_ok hcs
  refine Dr.cons (r := ⟨rtOf y (.ptr b o) ++ rtOf x z, [(b, .var cs)], [], none, .any, [(b, .var cs')]⟩) (.plain rfl rfl fun s hs => ?_) (met_mk (fun w hw => ?_) (fun p hp => by simp at hp; subst hp; exact hb) none_new rfl) h
  · exact OpOk.store (s := s) (hE.t _ _ ht) (evO_ok (n := s.n) (bx := s.bx) (rt_ev hy (fun p hp => hs.t p (mem_l hp)))) (evO_ok (n := s.n) (bx := s.bx) (rt_ev hx (fun p hp => hs.t p (mem_r hp)))) hz (hs.b (b, .var cs) (by simp)) (Nat.eq_of_beq_eq_true hn) (Nat.ble_eq_true_of_le e2) e1
  · rcases List.mem_append.1 hw with hw | hw
    · exact rt_now hy w hw
    · exact rt_now hx w hw
def rtsOf (E : Env) (tm : List (Nat × AV)) : List Operand → List (Nat × AV)
  | [] => []
  | .tmp t :: ys => match look tm t with
    | some x => (t, x) :: rtsOf E tm ys
    | none => rtsOf E tm ys
  | _ :: ys => rtsOf E tm ys
theorem rts_now : ∀ (ys : List Operand), ∀ p ∈ rtsOf E tm ys, look tm p.1 = some p.2
  | [], p, hp => by simp [rtsOf] at hp
  | y :: ys, p, hp => by
    cases y with
    | tmp t =>
      simp only [rtsOf] at hp
      split at hp
      · rename_i x hx
        cases hp with
        | head => exact hx
        | tail _ hp => exact rts_now ys p hp
      · exact rts_now ys p hp
    | const v => exact rts_now ys p hp
    | global k => exact rts_now ys p hp
    | func f => exact rts_now ys p hp
def evsO (E : Env) (tm : List (Nat × AV)) : List Operand → Option (List AV)
  | [] => some []
  | y :: ys => match evO E tm y, evsO E tm ys with
    | some x, some xs => some (x :: xs)
    | _, _ => none
theorem evsO_rts : ∀ (ys : List Operand) (xs : List AV), evsO E tm ys = some xs → ∀ s : St, (∀ p ∈ rtsOf E tm ys, look s.tm p.1 = some p.2) → ys.map (s.ev E.g) = xs
  | [], xs, h, s, hs => by obtain rfl := Option.some.inj h; rfl
  | y :: ys, xs, h, s, hs => by
    simp only [evsO] at h
    split at h
    · rename_i x xs' h1 h2
      obtain rfl := Option.some.inj h
      have e1 : s.ev E.g y = x := by
        refine evO_ok (n := s.n) (bx := s.bx) ?_
        cases y with
        | tmp t =>
          have hl : look tm t = some x := h1
          exact hs (t, x) (by simp [rtsOf, hl])
        | const v => exact h1
        | global k => exact h1
        | func f => exact h1
      have e2 := evsO_rts ys xs' h2 s (fun p hp => hs p (by
        cases y with
        | tmp t =>
          simp only [rtsOf]
          split
          · exact List.mem_cons_of_mem _ hp
          · exact hp
        | const v => exact hp
        | global k => exact hp
        | func f => exact hp))
      rw [List.map_cons, e1, e2]
    · cases h
/-- A call whose arguments are handed over as they are. -/
theorem D.call {f : FuncId} {xs : Array Operand} {ts : Array TypeId} {args : List AV} {r r' : AV} {bs bs' : List (Nat × Box)} (k : Nat) (hc : FnC E f args r bs) (hargs : evsO E tm xs.toList = some args) (hcl : closed args = true) (hk : freeB k bx bs = true) (hdr : d2 r = true) (hdb : dBs bs = true) (hd : Nat.blt d n = true)
    (hr : sh3 k r = r') (hbs : shBs k bs = bs') (h : Dr E.P E.g ops l ⟨n, (d, r') :: tm, bs' ++ bx⟩ (fun rs => Θ (⟨rtsOf E tm xs.toList, [], bs.map (fun p => p.1 + k), some d, r', bs'⟩ :: rs))) (hkl : lnFree k E.g.ln bs = true := by rfl) :
    Dr E.P E.g ops (⟨some d, .call { callee := .value (.func f), args := xs, argTypes := ts }, ty, pos, after, none⟩ :: l) ⟨n, tm, bx⟩ Θ := by
  obtain ⟨fn, h1, h2, h3⟩ := hc.fn
  subst hr
  subst hbs
  have hfree : ∀ (bs : List (Nat × Box)) (bx : List (Nat × Box)), freeB k bx bs = true ↔ ∀ b ∈ bs.map (fun p => p.1 + k), look bx b = none := by
    intro bs bx
    induction bs with
    | nil => simp [freeB]
    | cons p bs ih =>
      obtain ⟨b, B⟩ := p
      simp only [freeB, Bool.and_eq_true, Bool.not_eq_true', List.map_cons, List.forall_mem_cons, ih]
      refine and_congr ?_ Iff.rfl
      unfold has
      cases look bx (b + k) <;> simp
  refine Dr.cons (r := ⟨rtsOf E tm xs.toList, [], bs.map (fun (p : Nat × Box) => p.1 + k), some d, sh3 k r, shBs k bs⟩) (.plain rfl rfl fun s hs => ?_) (met_mk (rts_now _) none_met ((hfree bs bx).1 hk) hd) h
  refine OpOk.call (s := s) k hc.ok h1 h2 h3 ?_ hcl ((hfree bs s.bx).2 hs.n) hkl hdr hdb (hs.d d rfl)
  rw [evsO_rts _ _ hargs s hs.t]
  have : ∀ l : List AV, AVles s l l := fun l => by
    induction l with
    | nil => exact .nil
    | cons x l ih => exact .cons (.refl x) ih
  exact this args
/-- A guard that is met. -/
theorem D.yes {o : Option Tmp} {op : Op} {j t : Nat} {b want : Bool} {Θ : List Rec → St → Prop} (hj : (ops[j]?).bind (·.dst) = some t) (ht : look tm t = some (.pv (.bool b))) (hb : b = want) (h : Dr E.P E.g ops (⟨o, op, ty, pos, after, none⟩ :: l) ⟨n, tm, bx⟩ (fun rs s => match rs with | [] => False | r :: rs => Θ ({ r with rt := (t, .pv (.bool b)) :: r.rt } :: rs) s)) :
    Dr E.P E.g ops (⟨o, op, ty, pos, after, some (j, want)⟩ :: l) ⟨n, tm, bx⟩ Θ := by
  obtain ⟨rs, s', h1, h2⟩ := h
  cases h1 with
  | cons hr hm t1 =>
    rename_i r rs
    refine ⟨{ r with rt := (t, .pv (.bool b)) :: r.rt } :: rs, s', .cons (.yes j t b want rfl ?_ hj (by simp) hb ?_) ⟨fun p hp => ?_, hm.b, hm.n, hm.d⟩ t1, h2⟩
    · cases hr with
      | plain hg hd hl => exact hd
      | yes _ _ _ _ hg => cases hg
      | no _ _ _ _ hg => cases hg
    · cases hr with
      | plain hg hd hl =>
        intro s hs cx a w G hP hg' hs'
        exact hl s ⟨fun p hp => hs.t p (List.mem_cons_of_mem _ hp), hs.b, hs.n, hs.d⟩ cx a w G hP hg' hs'
      | yes _ _ _ _ hg => cases hg
      | no _ _ _ _ hg => cases hg
    · cases hp with
      | head => exact ht
      | tail _ hp => exact hm.t p hp
theorem D.no {op : Op} {j t : Nat} {want : Bool} {x : AV} (hj : (ops[j]?).bind (·.dst) = some t) (ht : look tm t = some x) (hb : offB want x = true) (hd : Nat.blt d n = true) (h : Dr E.P E.g ops l ⟨n, (d, .tup []) :: tm, bx⟩ (fun rs => Θ (⟨[(t, x)], [], [], some d, .tup [], []⟩ :: rs))) :
    Dr E.P E.g ops (⟨some d, op, ty, pos, after, some (j, want)⟩ :: l) ⟨n, tm, bx⟩ Θ :=
  Dr.cons (r := ⟨[(t, x)], [], [], some d, .tup [], []⟩) (.no j t x want rfl rfl hj (by simp) hb rfl rfl) (met_mk (fun p hp => by simp at hp; subst hp; exact ht) none_met none_new hd) h
end
end Go.Proofs.YtlcmnhocicehmaaDoor.Vm

/- The value machine, fifteenth part: division, shifts, sums of texts; the end of a function. Conditions: none. -/
namespace Go.Proofs.YtlcmnhocicehmaaDoor.Vm
open Go Go.RowKit
set_option linter.unusedVariables false
set_option linter.unusedSimpArgs false
section
variable {E : Env} {n : Nat} {tm : List (Nat × AV)} {bx : List (Nat × Box)} {ops : Array Oper} {l : List Oper} {Θ : St → Prop} {d : Tmp} {ty : TypeId} {pos : String} {after : Array Edge}
theorem now_bin {P : Program} {b : BinOp} {t : TypeId} {y z : Operand} {k k' : IntKind} {m j : Int} {v : Value} (h : Vm.now P (Go.binOp b t (.int k m) (.int k' j)) = some v) : Vm.now P (do eqGuard b t y z (.int k m) (.int k' j); Go.binOp b t (.int k m) (.int k' j)) = some v := by
  have : eqGuard b t y z (.int k m) (.int k' j) = pure () := by
    unfold eqGuard
    cases b <;> rfl
  rw [this]
  exact h
theorem O.rem {t t' : TypeId} {y z : Operand} {k : IntKind} {m j : Int} (hy : evO E tm y = some (.pv (.int k m))) (hz : evO E tm z = some (.pv (.int k j))) (hj : j ≠ 0) (hd : Nat.blt d n = true) (h : Ops E.P E.g ops l ⟨n, (d, .pv (.int k (m.tmod j))) :: tm, bx⟩ Θ) :
    Ops E.P E.g ops (⟨some d, .binOp .rem t y z t', ty, pos, after, none⟩ :: l) ⟨n, tm, bx⟩ Θ := by
  refine O.bin (v := .int k (m.tmod j)) hy hz rfl rfl (now_bin ?_) rfl hd h
  simp only [Go.binOp, ne_eq, not_true, if_false, Op.intDiv]
  rw [if_neg hj]; rfl
theorem O.quo {t t' : TypeId} {y z : Operand} {k : IntKind} {m j : Int} (hy : evO E tm y = some (.pv (.int k m))) (hz : evO E tm z = some (.pv (.int k j))) (hj : j ≠ 0) (hd : Nat.blt d n = true) (h : Ops E.P E.g ops l ⟨n, (d, .pv (.int k (k.wrap (m.tdiv j)))) :: tm, bx⟩ Θ) :
    Ops E.P E.g ops (⟨some d, .binOp .quo t y z t', ty, pos, after, none⟩ :: l) ⟨n, tm, bx⟩ Θ := by
  refine O.bin (v := .int k (k.wrap (m.tdiv j))) hy hz rfl rfl (now_bin ?_) rfl hd h
  simp only [Go.binOp, ne_eq, not_true, if_false, Op.intDiv]
  rw [if_neg hj]; rfl
theorem O.shl {t t' : TypeId} {y z : Operand} {k k' : IntKind} {m j : Int} (hy : evO E tm y = some (.pv (.int k m))) (hz : evO E tm z = some (.pv (.int k' j))) (hj : 0 ≤ j) (hd : Nat.blt d n = true) (h : Ops E.P E.g ops l ⟨n, (d, .pv (.int k (k.wrap (m * 2 ^ (min j.toNat k.bits))))) :: tm, bx⟩ Θ) :
    Ops E.P E.g ops (⟨some d, .binOp .shl t y z t', ty, pos, after, none⟩ :: l) ⟨n, tm, bx⟩ Θ := by
  refine O.bin (v := .int k (k.wrap (m * 2 ^ (min j.toNat k.bits)))) hy hz rfl rfl (now_bin ?_) rfl hd h
  simp only [Go.binOp, Op.shift]
  rw [if_neg (by omega)]; rfl
theorem O.shr {t t' : TypeId} {y z : Operand} {k k' : IntKind} {m j : Int} (hy : evO E tm y = some (.pv (.int k m))) (hz : evO E tm z = some (.pv (.int k' j))) (hj : 0 ≤ j) (hd : Nat.blt d n = true) (h : Ops E.P E.g ops l ⟨n, (d, .pv (.int k (m.fdiv (2 ^ (min j.toNat k.bits))))) :: tm, bx⟩ Θ) :
    Ops E.P E.g ops (⟨some d, .binOp .shr t y z t', ty, pos, after, none⟩ :: l) ⟨n, tm, bx⟩ Θ := by
  refine O.bin (v := .int k (m.fdiv (2 ^ (min j.toNat k.bits)))) hy hz rfl rfl (now_bin ?_) rfl hd h
  simp only [Go.binOp, Op.shift]
  rw [if_neg (by omega)]; rfl
theorem O.cat {t t' : TypeId} {y z : Operand} {s s' : ByteArray} (hy : evO E tm y = some (.pv (.str s))) (hz : evO E tm z = some (.pv (.str s'))) (hj : s.size + s'.size ≤ 9223372036854775807) (hd : Nat.blt d n = true) (h : Ops E.P E.g ops l ⟨n, (d, .pv (.str (s ++ s'))) :: tm, bx⟩ Θ) :
    Ops E.P E.g ops (⟨some d, .binOp .add t y z t', ty, pos, after, none⟩ :: l) ⟨n, tm, bx⟩ Θ := by
  refine O.bin (v := .string (s ++ s')) hy hz rfl rfl ?_ rfl hd h
  have hm : ¬ (((s.size + s'.size : Nat) : Int) > IntKind.i64.max) := by
    have : IntKind.i64.max = 9223372036854775807 := by decide
    rw [this]; omega
  show Vm.now E.P (Op.stringOp .add s s') = _
  unfold Op.stringOp
  simp only
  rw [if_neg hm]
  rfl
theorem now_call2 {P : Program} {b : Builtin} {x y : Operand} {ts : Array TypeId} {u v r : Value} {ρ : Operand → Value} (hx : ρ x = u) (hy : ρ y = v) (h : ∀ cs, Vm.now P (Go.builtin b ts ty cs #[u, v]) = some (.value r)) :
    Vm.now P (execOp ρ ⟨some d, .call { callee := .builtin b, args := #[x, y], argTypes := ts }, ty, pos, after, none⟩) = some (.value r) := by
  subst hx
  subst hy
  have e : execOp ρ ⟨some d, .call { callee := .builtin b, args := #[x, y], argTypes := ts }, ty, pos, after, none⟩ = Go.builtin b ts ty (#[x, y].map fun | .const _ => true | _ => false) (#[x, y].map ρ) := rfl
  rw [e]
  have e2 : #[x, y].map ρ = #[ρ x, ρ y] := by simp
  rw [e2]
  exact h _
theorem O.min {x y : Operand} {ts : Array TypeId} {k k' : IntKind} {m j : Int} (hx : evO E tm x = some (.pv (.int k m))) (hy : evO E tm y = some (.pv (.int k' j))) (hd : Nat.blt d n = true) (h : Ops E.P E.g ops l ⟨n, (d, .pv (.int k (if j < m then j else m))) :: tm, bx⟩ Θ) :
    Ops E.P E.g ops (⟨some d, .call { callee := .builtin .min, args := #[x, y], argTypes := ts }, ty, pos, after, none⟩ :: l) ⟨n, tm, bx⟩ Θ := by
  refine O.now (v := .int k (if j < m then j else m)) (by intros; intro h; cases h) (by simp [Op.operands, Call.operands, flatsO, hx, hy, AV.flat?, PV.val?]) (now_call2 (u := .int k m) (v := .int k' j) (by simp [flO, hx, AV.flat?, PV.val?]) (by simp [flO, hy, AV.flat?, PV.val?]) (fun _ => rfl)) rfl hd h
theorem O.max {x y : Operand} {ts : Array TypeId} {k k' : IntKind} {m j : Int} (hx : evO E tm x = some (.pv (.int k m))) (hy : evO E tm y = some (.pv (.int k' j))) (hd : Nat.blt d n = true) (h : Ops E.P E.g ops l ⟨n, (d, .pv (.int k (if j > m then j else m))) :: tm, bx⟩ Θ) :
    Ops E.P E.g ops (⟨some d, .call { callee := .builtin .max, args := #[x, y], argTypes := ts }, ty, pos, after, none⟩ :: l) ⟨n, tm, bx⟩ Θ := by
  refine O.now (v := .int k (if j > m then j else m)) (by intros; intro h; cases h) (by simp [Op.operands, Call.operands, flatsO, hx, hy, AV.flat?, PV.val?]) (now_call2 (u := .int k m) (v := .int k' j) (by simp [flO, hx, AV.flat?, PV.val?]) (by simp [flO, hy, AV.flat?, PV.val?]) (fun _ => rfl)) rfl hd h

/-- A function's results. -/
def resO (E : Env) (tm : List (Nat × AV)) (bx : List (Nat × Box)) : ResultVar → Option AV
  | .tmp t => look tm t
  | .cell p t => match look tm p with
    | some (.ptr b 0) => match look bx b, E.T t with
      | some (.var cs), some i => match aggD i.desc && Nat.beq cs.length i.size with
        | true => some (.agg cs)
        | false => none
      | _, _ => none
    | _ => none
def ressO (E : Env) (tm : List (Nat × AV)) (bx : List (Nat × Box)) : List ResultVar → Option (List AV)
  | [] => some []
  | x :: xs => match resO E tm bx x, ressO E tm bx xs with
    | some y, some ys => some (y :: ys)
    | _, _ => none
theorem ressO_ok (hE : E.Ok) : ∀ (l : List ResultVar) (ys : List AV), ressO E tm bx l = some ys → ress ⟨n, tm, bx⟩ l = some ys ∧ resTys E.P ⟨n, tm, bx⟩ l
  | [], ys, h => ⟨h, trivial⟩
  | x :: xs, ys, h => by
    simp only [ressO] at h
    split at h
    · rename_i y ys' h1 h2
      obtain ⟨e1, e2⟩ := ressO_ok hE xs ys' h2
      cases x with
      | tmp t =>
        simp only [resO] at h1
        refine ⟨?_, e2⟩
        simp only [ress, resAV, St.get, h1, Option.getD_some, e1]
        exact h
      | cell p t =>
        simp only [resO] at h1
        split at h1
        · rename_i b hb
          split at h1
          · rename_i cs i h3 h4
            split at h1
            · rename_i h5
              obtain rfl := Option.some.inj h1
              rw [Bool.and_eq_true] at h5
              have hg : St.get ⟨n, tm, bx⟩ p = .ptr b 0 := by simp [St.get, hb]
              refine ⟨?_, ⟨i, b, cs, hE.t _ _ h4, h5.1, hg, h3, Nat.eq_of_beq_eq_true h5.2⟩, e2⟩
              simp only [ress, resAV, hg, h3, e1]
              exact h
            · cases h1
          · cases h1
        · cases h1
    · cases h
def oneO : List AV → Option AV
  | [x] => some x
  | [] => some (.tup [])
  | x :: y :: xs => some (.tup (x :: y :: xs))
theorem Ends.of (hE : E.Ok) {fn : Func} {r y : AV} {bs : List (Nat × Box)} {x : Ex} {ys : List AV} (hx : x = .normal ∨ x = .ret) (hy : ressO E tm bx fn.results.toList = some ys) (h1 : oneO ys = some y) (hle : SLe ⟨1, [(0, y)], bx⟩ ⟨1, [(0, r)], bs⟩) : Ends E.P fn r bs x ⟨n, tm, bx⟩ := by
  obtain ⟨e1, e2⟩ := ressO_ok (n := n) hE _ _ hy
  refine ⟨hx, ys, e1, e2, ?_⟩
  have : oneOf ys = y := by
    cases ys with
    | nil => exact Option.some.inj h1
    | cons a l =>
      cases l with
      | nil => exact Option.some.inj h1
      | cons b l => exact Option.some.inj h1
  rw [this]
  exact hle
/-- A flat result. -/
theorem Ends.flat (hE : E.Ok) {fn : Func} {r y : AV} {x : Ex} {ys : List AV} (hx : x = .normal ∨ x = .ret) (hy : ressO E tm bx fn.results.toList = some ys) (h1 : oneO ys = some y) (hle : AVle ⟨1, [(0, y)], bx⟩ y r) (hm : men3 [] r = true) : Ends E.P fn r [] x ⟨n, tm, bx⟩ :=
  Ends.of hE hx hy h1 (SLe.res0 hle hm)
theorem FnC.of {f : FuncId} {fn : Func} {c : Code} {args : List AV} {r : AV} {bs : List (Nat × Box)} {tm : List (Nat × AV)} (hf : E.P.funcs[f]? = some fn) (hc : fn.body = some c) (hname : (fn.name == "runtime.NumGoroutine") = false) (hn : Nat.ble args.length fn.ntmps = true) (htm : params 0 args = tm)
    (h : Run E.P E.g c ⟨fn.ntmps, tm, []⟩ (Ends E.P fn r bs)) (hln : E.g.ln = [] := by rfl) : FnC E f args r bs :=
  ⟨FnOk.of hf hc hn (by rw [htm]; exact h) hln, fn, hf, hname, by rw [hc]; rfl⟩
theorem FnC.to {f : FuncId} {args : List AV} {r r' : AV} {bs bs' : List (Nat × Box)} (h : FnC E f args r bs) (hle : SLe ⟨1, [(0, r)], bs⟩ ⟨1, [(0, r')], bs'⟩) : FnC E f args r' bs' := ⟨h.ok.to hle, h.fn⟩
end
/-- A loop, by a number that every round lowers. -/
theorem LoopR.ind {P : Program} {g : Gb} {c : Code} {s : St} {Φ : Ex → St → Prop} {ι : Type} (Inv : ι → Prop) (S : ι → St) (μ : ι → Nat) (i : ι) (h0 : Inv i) (hs : SLe s (S i))
    (round : ∀ i, Inv i → (∀ j, Inv j → μ j < μ i → LoopR P g c (S j) Φ) → Run P g c (S i) (roundR P g c Φ)) : LoopR P g c s Φ := by
  have key : ∀ n i, μ i = n → Inv i → LoopR P g c (S i) Φ := by
    intro n
    induction n using Nat.strongRecOn with
    | _ n ih =>
      intro i hi hI
      exact LoopR.step (round i hI fun j hj hlt => ih (μ j) (hi ▸ hlt) j rfl hj)
  exact LoopR.pre hs (key _ i rfl h0)
inductive TmLe (s : St) : List (Nat × AV) → Prop
  | nil : TmLe s []
  | cons {t : Nat} {x : AV} {l : List (Nat × AV)} (h : AVle s (s.get t) x) (r : TmLe s l) : TmLe s ((t, x) :: l)
inductive BxsLe (s : St) : List (Nat × Box) → Prop
  | nil : BxsLe s []
  | cons {b : Nat} {B B' : Box} {l : List (Nat × Box)} (h : look s.bx b = some B) (k : BxLe s B B') (r : BxsLe s l) : BxsLe s ((b, B') :: l)
def mtm (bx : List (Nat × Box)) : List (Nat × AV) → Bool
  | [] => true
  | (_, x) :: l => men3 bx x && mtm bx l
def mbx (bx : List (Nat × Box)) : List (Nat × Box) → Bool
  | [] => true
  | (_, B) :: l => menB bx B && mbx bx l
theorem SLe.by {s : St} {tm : List (Nat × AV)} {bx : List (Nat × Box)} {n : Nat} (hn : s.n = n) (ht : TmLe s tm) (hb : BxsLe s bx) (hm : mtm bx tm = true) (hmb : mbx bx bx = true) : SLe s ⟨n, tm, bx⟩ := by
  subst hn
  refine SLe.mk ?_ ?_ ?_ ?_
  · clear hm
    induction ht with
    | nil => intro p hp; simp at hp
    | cons h _ ih => intro p hp; cases hp with | head => exact h | tail _ hp => exact ih p hp
  · clear hm hmb
    induction hb with
    | nil => intro p hp; simp at hp
    | cons h k _ ih => intro p hp; cases hp with | head => exact ⟨_, h, k⟩ | tail _ hp => exact ih p hp
  · have key : ∀ (bx : List (Nat × Box)) (l : List (Nat × AV)), mtm bx l = true → ∀ p ∈ l, men3 bx p.2 = true := by
      intro bx l
      induction l with
      | nil => intro _ p hp; simp at hp
      | cons q l ih =>
        intro h p hp
        obtain ⟨t, x⟩ := q
        simp only [mtm, Bool.and_eq_true] at h
        cases hp with
        | head => exact h.1
        | tail _ hp => exact ih h.2 p hp
    exact key bx tm hm
  · have key : ∀ (bx l : List (Nat × Box)), mbx bx l = true → ∀ p ∈ l, menB bx p.2 = true := by
      intro bx l
      induction l with
      | nil => intro _ p hp; simp at hp
      | cons q l ih =>
        intro h p hp
        obtain ⟨t, x⟩ := q
        simp only [mbx, Bool.and_eq_true] at h
        cases hp with
        | head => exact h.1
        | tail _ hp => exact ih h.2 p hp
    exact key bx bx hmb
theorem wrap_i64 {x : Int} (h0 : -9223372036854775808 ≤ x) (h1 : x ≤ 9223372036854775807) : IntKind.i64.wrap x = x := by
  unfold IntKind.wrap
  simp only [IntKind.bits, IntKind.signed]
  have : (2 : Int) ^ 64 = 18446744073709551616 := by decide
  have : (2 : Int) ^ (64 - 1) = 9223372036854775808 := by decide
  simp only [*, Bool.true_and, decide_eq_true_eq]
  split <;> omega
end Go.Proofs.YtlcmnhocicehmaaDoor.Vm

/- The value machine, sixteenth part: contracts told of values are taken over; what package variables hold. Conditions: none. -/
namespace Go.Proofs.YtlcmnhocicehmaaDoor.Vm
open Go Go.RowKit
set_option linter.unusedVariables false
theorem RP.val {dat : Nat → Nat → Option Value} {p : PV} {v : Value} (h : p.val? = some v) : RP dat p v := by
  cases p <;> simp only [PV.val?] at h <;> first | (cases h; done) | (obtain rfl := Option.some.inj h; constructor)
theorem RA.vals {G : Gh} : ∀ (cs : List AV) (us : List Value), vals? cs = some us → us.length = cs.length ∧ ∀ (i : Nat) x v, cs[i]? = some x → us[i]? = some v → RA G x v
  | [], us, h => by
    simp only [vals?] at h
    obtain rfl := Option.some.inj h
    exact ⟨rfl, fun i x v hx => by simp at hx⟩
  | x :: cs, us, h => by
    simp only [vals?] at h
    split at h
    · rename_i u us' h1 h2
      obtain rfl := Option.some.inj h
      obtain ⟨e1, e2⟩ := RA.vals (G := G) cs us' h2
      refine ⟨by simp [e1], fun i y v hy hv => ?_⟩
      cases i with
      | zero =>
        simp at hy hv
        subst hy
        subst hv
        cases x <;> simp only [AV.val?] at h1 <;> first | cases h1 | exact .pv _ _ (RP.val h1)
      | succ i => exact e2 i y v (by simpa using hy) (by simpa using hv)
    · cases h
theorem RA.flat {G : Gh} {x : AV} {v : Value} (h : x.flat? = some v) : RA G x v := by
  cases x <;> simp only [AV.flat?] at h <;> try (cases h; done)
  · exact .pv _ _ (RP.val h)
  · rw [Option.map_eq_some_iff] at h
    obtain ⟨us, h1, rfl⟩ := h
    obtain ⟨e1, e2⟩ := RA.vals (G := G) _ _ h1
    exact .agg _ _ (by simpa using e1) (fun i x v hx hv => e2 i x v hx (by simpa using hv))
  · rw [Option.map_eq_some_iff] at h
    obtain ⟨us, h1, rfl⟩ := h
    obtain ⟨e1, e2⟩ := RA.vals (G := G) _ _ h1
    exact .tup _ _ (by simpa using e1) (fun i x v hx hv => e2 i x v hx (by simpa using hv))
/-- The package variables hold what is said. -/
def Glo (g : Nat → Option (List PV)) (w : World) : Prop := ∀ k cs, g k = some cs → ∀ (j : Nat) p u, cs[j]? = some p → p.val? = some u → w.cell? ⟨k, j, none⟩ = some u
def flats? : List AV → Option (List Value)
  | [] => some []
  | x :: xs => match x.flat?, flats? xs with
    | some v, some vs => some (v :: vs)
    | _, _ => none
theorem flats_of {G : Gh} : ∀ (cs : List AV) (us vs : List Value), flats? cs = some us → vs.length = cs.length → (∀ (i : Nat) x v, cs[i]? = some x → vs[i]? = some v → RA G x v) → vs = us
  | [], us, vs, h, hl, _ => by
    simp only [flats?] at h
    obtain rfl := Option.some.inj h
    exact List.eq_nil_of_length_eq_zero hl
  | x :: cs, us, vs, h, hl, hr => by
    cases vs with
    | nil => simp at hl
    | cons v vs =>
      simp only [flats?] at h
      split at h
      · rename_i u us' h1 h2
        obtain rfl := Option.some.inj h
        have e1 := (hr 0 x v rfl rfl).of_flat h1
        have e2 := flats_of cs us' vs h2 (by simpa using hl) (fun i y u' hy hu => hr (i + 1) y u' (by simpa using hy) (by simpa using hu))
        rw [e1, e2]
      · cases h
theorem glo_of {g : Nat → Option (List PV)} {dat : Nat → Nat → Option Value} {w : World} (hdat : ∀ b o v, dat b o = some v → w.cell? ⟨b, o, none⟩ = some v) (hglo : ∀ k cs, g k = some cs → RA ⟨dat, fun _ => none, fun _ => none⟩ (.eptr cs) (.pointer (some ⟨k, 0, none⟩))) : Glo g w := by
  intro k cs hk j p u hp hu
  have h := hglo k cs hk
  cases h with
  | eptr _ _ hs h =>
    obtain ⟨v, h1, h2⟩ := h j p hp
    have := hdat _ _ _ h1
    rw [h2.of_val hu] at this
    simpa using this
theorem glo_to {g : Nat → Option (List PV)} {dat : Nat → Nat → Option Value} {w : World} (hdat : ∀ b o v, b < w.heap.size → w.cell? ⟨b, o, none⟩ = some v → dat b o = some v) (h : Glo g w) (hf : ∀ k cs, g k = some cs → ∀ p ∈ cs, ∃ u, p.val? = some u) :
    ∀ k cs, g k = some cs → RA ⟨dat, fun _ => none, fun _ => none⟩ (.eptr cs) (.pointer (some ⟨k, 0, none⟩)) := by
  intro k cs hk
  refine .eptr cs _ rfl fun j x hx => ?_
  obtain ⟨u, hu⟩ := hf k cs hk x (List.mem_of_getElem? hx)
  have h1 := h k cs hk j x u hx hu
  have hlt : k < w.heap.size := by
    rcases Nat.lt_or_ge k w.heap.size with h' | h'
    · exact h'
    · simp [World.cell?, Array.getElem?_eq_none h'] at h1
  exact ⟨u, hdat _ _ _ hlt (by simpa using h1), RP.val hu⟩
/-- A contract told of values is a contract here. -/
theorem FnC.kit {E : Env} {f : FuncId} {fn : Func} {args : List AV} {us : List Value} {vs : Array Value} {r : AV} {v : Value} (hf : E.P.funcs[f]? = some fn) (hname : (fn.name == "runtime.NumGoroutine") = false) (hb : fn.body.isSome = true)
    (hv : flats? args = some us) (hvs : us.toArray = vs) (hr : r.flat? = some v) (h : ∀ w, Glo E.g.fn w → Calls E.P f vs w fun e w' => e = .returned v ∧ Below w.heap.size w w') : FnC E f args r [] := by
  subst hvs
  refine ⟨fun w vals dat hdat hsz hvals hglo => ?_, fn, hf, hname, hb⟩
  have hl : vals = us.toArray := by
    have := flats_of args us vals.toList hv (by simpa using hsz) (fun i x v hx hv => hvals i x v hx (by simpa using hv))
    rw [← this]
  rw [hl]
  refine (h w (glo_of hdat hglo)).mono fun e w' ⟨he, hbel⟩ => ?_
  have hlt : ∀ b o v, dat b o = some v → b < w.heap.size := fun b o v hd => by
    have h1 := hdat b o v hd
    rcases Nat.lt_or_ge b w.heap.size with h' | h'
    · exact h'
    · simp [World.cell?, Array.getElem?_eq_none h'] at h1
  refine ⟨v, ⟨dat, fun _ => none, fun _ => none⟩, he, ?_, rfl, rfl, fun b o v hd => (hbel.cell (hlt b o v hd)).trans (hdat b o v hd), fun b B hB => by simp [look] at hB, fun b k hk => by simp at hk, fun b x hx => by simp at hx, fun b b' k hk => by simp [Gh.own] at hk, (BelowM.refl (c := Cx.fresh E.P w dat E.g.fn)).trans hbel, ⟨fun b o _ _ => rfl, fun _ _ _ h => h⟩, hglo, rfl, fun b k h => by cases h⟩
  intro t
  cases t with
  | zero => exact RA.flat hr
  | succ t => exact .any _
/-- A law's contract, at its own call. -/
theorem FnC.calls {E : Env} {f : FuncId} {args : List AV} {r : AV} {bs : List (Nat × Box)} {v : Value} (h : FnC E f args r bs) (hr : r.flat? = some v) (W : World) (vals : Array Value) (hsz : vals.size = args.length)
    (hvals : ∀ (i : Nat) x v, args[i]? = some x → vals[i]? = some v → RA ⟨fun b o => W.cell? ⟨b, o, none⟩, fun _ => none, fun _ => none⟩ x v) (hg : Glo E.g.fn W) (hgf : ∀ k cs, E.g.fn k = some cs → ∀ p ∈ cs, ∃ u, p.val? = some u) :
    Calls E.P f vals W fun e w' => e = .returned v ∧ Below W.heap.size W w' := by
  refine (h.ok W vals (fun b o => W.cell? ⟨b, o, none⟩) (fun b o v h => h) hsz hvals (glo_to (fun _ _ _ _ h => h) hg hgf)).mono ?_
  rintro e w' ⟨u, G', he, hs⟩
  have := (hs.tm 0)
  refine ⟨?_, hs.bel.below⟩
  rw [he]
  exact congrArg _ (RA.of_flat this hr)

/-- The two tables of utf8 among the package variables. -/
def tabsG (k3 k4 : Nat) (k : Nat) : Option (List PV) := if k = k3 then some ((List.range 256).map fun c => .int .u8 (Lib.firstT c)) else if k = k4 then some ((List.range 32).map fun j => .int .u8 (if j % 2 = 0 then Lib.accLo (j / 2) else Lib.accHi (j / 2))) else none
theorem tabs_of {g : Nat → Option (List PV)} {k3 k4 : Nat} {w : World} (h3 : g k3 = some ((List.range 256).map fun c => .int .u8 (Lib.firstT c))) (h4 : g k4 = some ((List.range 32).map fun j => .int .u8 (if j % 2 = 0 then Lib.accLo (j / 2) else Lib.accHi (j / 2)))) (h : Glo g w) : Lib.Utf8Tabs k3 k4 w := by
  refine ⟨fun c hc => h k3 _ h3 c (.int .u8 (Lib.firstT c)) _ (by simp [List.getElem?_map, List.getElem?_range hc]) rfl, fun i hi => ⟨?_, ?_⟩⟩
  · exact h k4 _ h4 (2 * i) (.int .u8 (Lib.accLo i)) _ (by rw [List.getElem?_map, List.getElem?_range (by omega)]; simp) rfl
  · exact h k4 _ h4 (2 * i + 1) (.int .u8 (Lib.accHi i)) _ (by rw [List.getElem?_map, List.getElem?_range (by omega)]; simp [show (2 * i + 1) % 2 = 1 by omega, show (2 * i + 1) / 2 = i by omega]) rfl
theorem glo_tabs {k3 k4 : Nat} {w : World} (h : Lib.Utf8Tabs k3 k4 w) : Glo (tabsG k3 k4) w := by
  intro k cs hk j p u hp hu
  unfold tabsG at hk
  split at hk
  · rename_i e
    subst e
    obtain rfl := Option.some.inj hk
    rw [List.getElem?_map, Option.map_eq_some_iff] at hp
    obtain ⟨c, h1, rfl⟩ := hp
    obtain ⟨h2, h3⟩ := List.getElem?_eq_some_iff.1 h1
    simp at h2 h3
    subst h3
    obtain rfl := Option.some.inj hu
    exact h.1 _ h2
  · split at hk
    · rename_i e
      subst e
      obtain rfl := Option.some.inj hk
      rw [List.getElem?_map, Option.map_eq_some_iff] at hp
      obtain ⟨c, h1, rfl⟩ := hp
      obtain ⟨h2, h3⟩ := List.getElem?_eq_some_iff.1 h1
      simp at h2 h3
      subst h3
      obtain rfl := Option.some.inj hu
      by_cases hc : j % 2 = 0
      · rw [if_pos hc]
        have := (h.2 (j / 2) (by omega)).1
        rwa [show 2 * (j / 2) = j by omega] at this
      · rw [if_neg hc]
        have := (h.2 (j / 2) (by omega)).2
        rwa [show 2 * (j / 2) + 1 = j by omega] at this
    · cases hk
theorem tabs_flat {k3 k4 : Nat} : ∀ k cs, tabsG k3 k4 k = some cs → ∀ p ∈ cs, ∃ u, p.val? = some u := by
  intro k cs hk p hp
  unfold tabsG at hk
  split at hk
  · obtain rfl := Option.some.inj hk
    rw [List.mem_map] at hp
    obtain ⟨c, _, rfl⟩ := hp
    exact ⟨_, rfl⟩
  · split at hk
    · obtain rfl := Option.some.inj hk
      rw [List.mem_map] at hp
      obtain ⟨c, _, rfl⟩ := hp
      exact ⟨_, rfl⟩
    · cases hk
theorem sh1_zero (x : AV) : sh1 0 x = x := by cases x <;> rfl
theorem shs1_zero : ∀ l : List AV, shs1 0 l = l
  | [] => rfl
  | x :: l => by simp only [shs1, sh1_zero, shs1_zero l]
theorem sh2_zero (x : AV) : sh2 0 x = x := by cases x <;> simp only [sh2, shs1_zero] <;> exact sh1_zero _
theorem shs2_zero : ∀ l : List AV, shs2 0 l = l
  | [] => rfl
  | x :: l => by simp only [shs2, sh2_zero, shs2_zero l]
theorem sh3_zero (x : AV) : sh3 0 x = x := by cases x <;> simp only [sh3, shs2_zero] <;> exact sh1_zero _
section
variable {E : Env} {n : Nat} {tm : List (Nat × AV)} {bx : List (Nat × Box)} {ops : Array Oper} {l : List Oper} {Θ : St → Prop} {d : Tmp} {ty : TypeId} {pos : String} {after : Array Edge}
/-- A call that brings no boxes. -/
theorem O.callF {f : FuncId} {xs : Array Operand} {ts : Array TypeId} {args : List AV} {r : AV} (hc : FnC E f args r []) (hargs : AVles ⟨n, tm, bx⟩ (xs.toList.map (St.ev ⟨n, tm, bx⟩ E.g)) args) (hcl : closed args = true) (hdr : d2 r = true) (hd : Nat.blt d n = true)
    (h : Ops E.P E.g ops l ⟨n, (d, r) :: tm, bx⟩ Θ) : Ops E.P E.g ops (⟨some d, .call { callee := .value (.func f), args := xs, argTypes := ts }, ty, pos, after, none⟩ :: l) ⟨n, tm, bx⟩ Θ :=
  O.call (bs' := []) (bs2 := bx) 0 hc hargs hcl rfl hdr rfl hd (sh3_zero r) rfl h
/-- The same, with arguments found by reckoning. -/
theorem O.callE {f : FuncId} {xs : Array Operand} {ts : Array TypeId} {args : List AV} {r : AV} (hc : FnC E f args r []) (hargs : evsO E tm xs.toList = some args) (hcl : closed args = true) (hdr : d2 r = true) (hd : Nat.blt d n = true)
    (h : Ops E.P E.g ops l ⟨n, (d, r) :: tm, bx⟩ Θ) : Ops E.P E.g ops (⟨some d, .call { callee := .value (.func f), args := xs, argTypes := ts }, ty, pos, after, none⟩ :: l) ⟨n, tm, bx⟩ Θ := by
  refine O.callF hc ?_ hcl hdr hd h
  have key : ∀ (l : List Operand) (args : List AV), evsO E tm l = some args → AVles ⟨n, tm, bx⟩ (l.map (St.ev ⟨n, tm, bx⟩ E.g)) args := by
    intro l
    induction l with
    | nil => intro args h; obtain rfl := Option.some.inj h; exact .nil
    | cons x l ih =>
      intro args h
      simp only [evsO] at h
      split at h
      · rename_i y ys h1 h2
        obtain rfl := Option.some.inj h
        exact .cons (AVle.of_eq (evO_ok h1)) (ih _ h2)
      · cases h
  exact key _ _ hargs
theorem D.callE {Θ : List Rec → St → Prop} {f : FuncId} {xs : Array Operand} {ts : Array TypeId} {args : List AV} {r : AV} (hc : FnC E f args r []) (hargs : evsO E tm xs.toList = some args) (hcl : closed args = true) (hdr : d2 r = true) (hd : Nat.blt d n = true)
    (h : Dr E.P E.g ops l ⟨n, (d, r) :: tm, bx⟩ (fun rs => Θ (⟨rtsOf E tm xs.toList, [], [], some d, r, []⟩ :: rs))) :
    Dr E.P E.g ops (⟨some d, .call { callee := .value (.func f), args := xs, argTypes := ts }, ty, pos, after, none⟩ :: l) ⟨n, tm, bx⟩ Θ :=
  D.call 0 hc hargs hcl rfl hdr rfl hd (sh3_zero r) rfl h
end

/-- Two numbers compared. -/
def cmpI (b : BinOp) (m j : Int) : Option Bool :=
  match b with
  | .eql => some (decide (m = j))
  | .neq => some (decide (m ≠ j))
  | .lss => some (decide (m < j))
  | .leq => some (decide (m ≤ j))
  | .gtr => some (decide (j < m))
  | .geq => some (decide (j ≤ m))
  | _ => none
theorem cmpI_ok {P : Program} {b : BinOp} {t : TypeId} {k : IntKind} {m j : Int} {c : Bool} (h : cmpI b m j = some c) : Vm.now P (Go.binOp b t (.int k m) (.int k j)) = some (.bool c) := by
  cases b <;> simp only [cmpI] at h <;> first | (cases h; done) | skip
  all_goals
    obtain rfl := Option.some.inj h
    simp only [Go.binOp, Op.intCmp, ne_eq, not_true, if_false]
    first | rfl | (simp only [bne, BEq.beq]; rfl) | skip
  show some (Value.bool (m != j)) = _
  congr 2
  by_cases hmj : m = j <;> simp [hmj]
/-- Two numbers reckoned with: sums, differences, products. -/
def arI (b : BinOp) (m j : Int) : Option Int :=
  match b with
  | .add => some (m + j)
  | .sub => some (m - j)
  | .mul => some (m * j)
  | _ => none
theorem arI_ok {P : Program} {b : BinOp} {t : TypeId} {k : IntKind} {m j r : Int} (h : arI b m j = some r) : Vm.now P (Go.binOp b t (.int k m) (.int k j)) = some (.int k (k.wrap r)) := by
  cases b <;> simp only [arI] at h <;> first | (cases h; done) | skip
  all_goals
    obtain rfl := Option.some.inj h
    simp only [Go.binOp, Op.intArith, ne_eq, not_true, if_false]
    rfl
section
variable {E : Env} {n : Nat} {tm : List (Nat × AV)} {bx : List (Nat × Box)} {ops : Array Oper} {l : List Oper} {d : Tmp} {ty : TypeId} {pos : String} {after : Array Edge} {b : BinOp} {t t' : TypeId} {y z : Operand} {k : IntKind} {m j r q : Int} {c c' : Bool}
theorem O.cmp {Θ : St → Prop} (hy : evO E tm y = some (.pv (.int k m))) (hz : evO E tm z = some (.pv (.int k j))) (hc : cmpI b m j = some c) (hcc : c = c') (hd : Nat.blt d n = true) (h : Ops E.P E.g ops l ⟨n, (d, .pv (.bool c')) :: tm, bx⟩ Θ) :
    Ops E.P E.g ops (⟨some d, .binOp b t y z t', ty, pos, after, none⟩ :: l) ⟨n, tm, bx⟩ Θ := by
  subst hcc
  exact O.bin (v := .bool c) hy hz rfl rfl (now_bin (cmpI_ok hc)) rfl hd h
theorem D.cmp {Θ : List Rec → St → Prop} (hy : evO E tm y = some (.pv (.int k m))) (hz : evO E tm z = some (.pv (.int k j))) (hc : cmpI b m j = some c) (hcc : c = c') (hd : Nat.blt d n = true) (h : Dr E.P E.g ops l ⟨n, (d, .pv (.bool c')) :: tm, bx⟩ (fun rs => Θ (⟨rtOf y (.pv (.int k m)) ++ rtOf z (.pv (.int k j)), [], [], some d, .pv (.bool c'), []⟩ :: rs))) :
    Dr E.P E.g ops (⟨some d, .binOp b t y z t', ty, pos, after, none⟩ :: l) ⟨n, tm, bx⟩ Θ := by
  subst hcc
  exact D.bin (v := .bool c) hy hz rfl rfl (now_bin (cmpI_ok hc)) rfl hd h
theorem O.ar {Θ : St → Prop} (hy : evO E tm y = some (.pv (.int k m))) (hz : evO E tm z = some (.pv (.int k j))) (hc : arI b m j = some r) (hcc : k.wrap r = q) (hd : Nat.blt d n = true) (h : Ops E.P E.g ops l ⟨n, (d, .pv (.int k q)) :: tm, bx⟩ Θ) :
    Ops E.P E.g ops (⟨some d, .binOp b t y z t', ty, pos, after, none⟩ :: l) ⟨n, tm, bx⟩ Θ := by
  subst hcc
  exact O.bin (v := .int k (k.wrap r)) hy hz rfl rfl (now_bin (arI_ok hc)) rfl hd h
theorem D.ar {Θ : List Rec → St → Prop} (hy : evO E tm y = some (.pv (.int k m))) (hz : evO E tm z = some (.pv (.int k j))) (hc : arI b m j = some r) (hcc : k.wrap r = q) (hd : Nat.blt d n = true) (h : Dr E.P E.g ops l ⟨n, (d, .pv (.int k q)) :: tm, bx⟩ (fun rs => Θ (⟨rtOf y (.pv (.int k m)) ++ rtOf z (.pv (.int k j)), [], [], some d, .pv (.int k q), []⟩ :: rs))) :
    Dr E.P E.g ops (⟨some d, .binOp b t y z t', ty, pos, after, none⟩ :: l) ⟨n, tm, bx⟩ Θ := by
  subst hcc
  exact D.bin (v := .int k (k.wrap r)) hy hz rfl rfl (now_bin (arI_ok hc)) rfl hd h
/-- Two truths: are they alike? -/
theorem O.eqB {Θ : St → Prop} {p p' : Bool} (hy : evO E tm y = some (.pv (.bool p))) (hz : evO E tm z = some (.pv (.bool p'))) {i : TI} (hE : E.Ok) (ht : E.T t = some i) (hk : i.desc = .bool) (hcc : (p == p') = c) (hd : Nat.blt d n = true) (h : Ops E.P E.g ops l ⟨n, (d, .pv (.bool c)) :: tm, bx⟩ Θ) :
    Ops E.P E.g ops (⟨some d, .binOp .eql t y z t', ty, pos, after, none⟩ :: l) ⟨n, tm, bx⟩ Θ := by
  refine Ops.op rfl (OpOk.val (o := ⟨some d, .binOp .eql t y z t', ty, pos, after, none⟩) (dlt hd) (fun cx a w G hP hg hs => ⟨.bool c, ?_, .pv _ _ (.bool _)⟩)) h
  have h1 := hs.ev hg y
  have h2 := hs.ev hg z
  rw [evO_ok hy] at h1
  rw [evO_ok hz] at h2
  have e1 : a.eval y = .bool p := h1.of_val rfl
  have e2 : a.eval z = .bool p' := h2.of_val rfl
  obtain ⟨ds, u1, u2⟩ := tiOf_und (hE.t _ _ ht)
  rw [hk] at u2
  have u3 : ds = .bool := by cases ds <;> simp [kOf] at u2 ⊢
  subst u3
  subst hcc
  have hq : (Op.equalIn Op.maxDepth t (.bool p) (.bool p')).run E.P w = .ok (p == p') w := by
    rw [show Op.maxDepth = 9999 + 1 from rfl]
    unfold Op.equalIn
    rw [Sem.run_bind, run_underlying u1 w]
    rfl
  simp [execOp, e1, e2, eqGuard, Go.binOp, Op.equal, hq, Result.andThen_ok]
end

/-! ### a state made smaller -/
def keepO (tm : List (Nat × AV)) : List Nat → Option (List (Nat × AV))
  | [] => some []
  | k :: ks => match keepO tm ks with
    | none => none
    | some l => match look tm k with
      | some x => some ((k, x) :: l)
      | none => some l
def memN (b : Nat) : List Nat → Bool
  | [] => false
  | c :: l => Nat.beq b c || memN b l
def dedO (seen : List Nat) : List (Nat × Box) → Option (List (Nat × Box))
  | [] => some []
  | (b, B) :: l => match memN b seen with
    | true => dedO seen l
    | false => match dedO (b :: seen) l with
      | some r => some ((b, B) :: r)
      | none => none
theorem keepO_ok {tm : List (Nat × AV)} : ∀ (ks : List Nat) (tm' : List (Nat × AV)), keepO tm ks = some tm' → ∀ t, look tm' t = none ∨ look tm' t = look tm t
  | [], tm', h, t => by obtain rfl := Option.some.inj h; exact .inl rfl
  | k :: ks, tm', h, t => by
    simp only [keepO] at h
    split at h
    · cases h
    · rename_i l hl
      have ih := keepO_ok ks l hl t
      split at h
      · rename_i x hx
        obtain rfl := Option.some.inj h
        rw [look_cons]
        by_cases hk : k = t
        · rw [if_pos hk]; subst hk; exact .inr hx.symm
        · rw [if_neg hk]; exact ih
      · obtain rfl := Option.some.inj h; exact ih
theorem memN_ok {b : Nat} : ∀ {l : List Nat}, memN b l = true ↔ b ∈ l
  | [] => by simp [memN]
  | c :: l => by
    simp only [memN, Bool.or_eq_true, List.mem_cons, memN_ok (l := l)]
    constructor
    · rintro (h | h)
      · exact .inl (Nat.eq_of_beq_eq_true h)
      · exact .inr h
    · rintro (h | h)
      · exact .inl (h ▸ Nat.beq_refl b)
      · exact .inr h
theorem dedO_ok : ∀ (bx : List (Nat × Box)) (seen : List Nat) (bx' : List (Nat × Box)), dedO seen bx = some bx' → ∀ b, (b ∈ seen → look bx' b = none) ∧ (b ∉ seen → look bx' b = look bx b)
  | [], seen, bx', h, b => by obtain rfl := Option.some.inj h; exact ⟨fun _ => rfl, fun _ => rfl⟩
  | (c, B) :: l, seen, bx', h, b => by
    simp only [dedO] at h
    split at h
    · rename_i hm
      have hc := memN_ok.1 hm
      obtain ⟨e1, e2⟩ := dedO_ok l seen bx' h b
      refine ⟨e1, fun hb => ?_⟩
      rw [look_cons, if_neg (fun (e : c = b) => hb (e ▸ hc))]
      exact e2 hb
    · rename_i hm
      have hc : c ∉ seen := fun hc => by rw [memN_ok.2 hc] at hm; cases hm
      split at h
      · rename_i r hr
        obtain rfl := Option.some.inj h
        obtain ⟨e1, e2⟩ := dedO_ok l (c :: seen) r hr b
        rw [look_cons, look_cons]
        by_cases hcb : c = b
        · subst hcb
          rw [if_pos rfl, if_pos rfl]
          exact ⟨fun hb => absurd hb hc, fun _ => rfl⟩
        · rw [if_neg hcb, if_neg hcb]
          exact ⟨fun hb => e1 (List.mem_cons_of_mem _ hb), fun hb => e2 (fun h => by
            rcases List.mem_cons.1 h with h | h
            · exact hcb h.symm
            · exact hb h)⟩
      · cases h
theorem SLe.keep {n : Nat} {tm tm' : List (Nat × AV)} {bx bx' : List (Nat × Box)} (ks : List Nat) (ht : keepO tm ks = some tm') (hb : dedO [] bx = some bx') : SLe ⟨n, tm, bx⟩ ⟨n, tm', bx'⟩ := by
  intro cx a w G h
  have hl : ∀ b, look bx' b = look bx b := fun b => (dedO_ok bx [] bx' hb b).2 (by simp)
  refine ⟨G, fun t => ?_, h.sz, h.df, h.dat, fun b B hB => h.bx b B (by rw [← hl b]; exact hB), fun b k hk => ?_, fun b x hx => ?_, h.inj, h.bel, h.low, h.glo, h.bas⟩
  · rcases keepO_ok ks tm' ht t with e | e
    · have : St.get ⟨n, tm', bx'⟩ t = .any := by simp [St.get, e]
      rw [this]
      exact .any _
    · have : St.get ⟨n, tm', bx'⟩ t = St.get ⟨n, tm, bx⟩ t := by simp [St.get, e]
      rw [this]
      exact h.tm t
  · obtain ⟨⟨cs, h1, hcb⟩, hln⟩ := h.gb b k hk
    exact ⟨⟨cs, by rw [← h1]; exact hl b, hcb⟩, hln⟩
  · obtain ⟨e, sz, xs, h1⟩ := h.gl b x hx
    exact ⟨e, sz, xs, by rw [← h1]; exact hl b⟩
theorem Run.keep {P : Program} {g : Gb} {c : Code} {Φ : Ex → St → Prop} {n : Nat} {tm tm' : List (Nat × AV)} {bx bx' : List (Nat × Box)} (ks : List Nat) (ht : keepO tm ks = some tm') (hb : dedO [] bx = some bx') (h : Run P g c ⟨n, tm', bx'⟩ Φ) : Run P g c ⟨n, tm, bx⟩ Φ :=
  Run.pre (SLe.keep ks ht hb) h
end Go.Proofs.YtlcmnhocicehmaaDoor.Vm

/- The value machine, seventeenth part: a call of a function that a value is. Conditions: none. -/
namespace Go.Proofs.YtlcmnhocicehmaaDoor.Vm
open Go Go.RowKit
set_option linter.unusedVariables false
section
variable {P : Program} {g : Gb} {s : St}
theorem OpOk.callV {d : Tmp} {f : FuncId} {fn : Func} {c : Operand} {xs : Array Operand} {ts : Array TypeId} {ty : TypeId} {pos : String} {after : Array Edge} {gd : Option (Nat × Bool)} {args : List AV} {r : AV} {bs : List (Nat × Box)} (k : Nat)
    (hy : s.ev g c = .clo f []) (hc : FnOk P g f args r bs) (hf : P.funcs[f]? = some fn) (hname : (fn.name == "runtime.NumGoroutine") = false) (hb : fn.body.isSome = true) (hargs : AVles s (xs.toList.map (s.ev g)) args) (hcl : closed args = true)
    (hk : freeB k s.bx bs = true) (hkl : lnFree k g.ln bs = true) (hdr : d2 r = true) (hdb : dBs bs = true) (hd : d < s.n) :
    OpOk P g ⟨some d, .call { callee := .value c, args := xs, argTypes := ts }, ty, pos, after, gd⟩ s (St.put { s with bx := shBs k bs ++ s.bx } d (sh3 k r)) := by
  intro cx a w G hP hg hs K Q hK
  have hv : a.eval c = .func (.func f) #[] #[] := by
    have h := hs.ev hg c
    rw [hy] at h
    generalize a.eval c = v at h
    cases h with
    | clo f cs vs hl h =>
      have : vs = #[] := by simpa using hl
      rw [this]
  have hrun : (execOp a.eval ⟨some d, .call { callee := .value c, args := xs, argTypes := ts }, ty, pos, after, gd⟩).run P w = .ok (.enter f (xs.map a.eval)) w := by
    have hnb : fn.body ≠ none := fun e => by rw [e] at hb; cases hb
    have hne : fn.name ≠ "runtime.NumGoroutine" := fun e => by simp [e] at hname
    simp [execOp, resolve, hv, Deferred.ofValue, invoke, callFunc, program, Sem.run_bind, Sem.run, hf, hne, hnb, Result.andThen]
  unfold Oper.wp
  rw [hrun]
  subst hP
  subst hg
  obtain ⟨hl, hle⟩ := hargs.get
  have hvals : ∀ (i : Nat) x v, args[i]? = some x → (xs.map a.eval)[i]? = some v → RA ⟨G.dat, fun _ => none, fun _ => none⟩ x v := by
    intro i x v hx hv
    rw [Array.getElem?_map, Option.map_eq_some_iff] at hv
    obtain ⟨y, hy, rfl⟩ := hv
    have h1 := hle i (s.ev cx.g y) x (by simp [hy]) hx
    have h2 := hs.le h1 (hs.ev rfl y)
    exact RA.agree (h := h2) (G := G) (G' := ⟨G.dat, fun _ => none, fun _ => none⟩) (D := has []) (fun _ _ _ h => h) (fun b k hD => by simp [has, look] at hD) (fun b x hD => by simp [has, look] at hD) (men3_ok (closed_mem hcl x (List.mem_of_getElem? hx)))
  have hglo : ∀ k cs, cx.g.fn k = some cs → RA ⟨G.dat, fun _ => none, fun _ => none⟩ (.eptr cs) (.pointer (some ⟨k, 0, none⟩)) := fun k cs hg =>
    RA.agree (h := hs.glo k cs hg) (G := G) (G' := ⟨G.dat, fun _ => none, fun _ => none⟩) (D := has []) (fun _ _ _ h => h) (fun b k hD => by simp [has, look] at hD) (fun b x hD => by simp [has, look] at hD) (.eptr cs)
  refine Calls.mono (hc w (xs.map a.eval) G.dat hs.dat (by simpa using hl) hvals hglo) ?_
  rintro e w' ⟨v, G2, rfl, h2⟩
  obtain ⟨G', h3⟩ := hs.join hk hkl hdr hdb h2 hd
  exact hK _ _ G' h3
end
section
variable {E : Env} {n : Nat} {tm : List (Nat × AV)} {bx : List (Nat × Box)} {ops : Array Oper} {l : List Oper} {Θ : St → Prop} {d : Tmp} {ty : TypeId} {pos : String} {after : Array Edge}
theorem evsO_les : ∀ (l : List Operand) (args : List AV), evsO E tm l = some args → AVles ⟨n, tm, bx⟩ (l.map (St.ev ⟨n, tm, bx⟩ E.g)) args
  | [], args, h => by obtain rfl := Option.some.inj h; exact .nil
  | x :: l, args, h => by
    simp only [evsO] at h
    split at h
    · rename_i y ys h1 h2
      obtain rfl := Option.some.inj h
      exact .cons (AVle.of_eq (evO_ok h1)) (evsO_les l _ h2)
    · cases h
theorem O.callV {c : Operand} {f : FuncId} {xs : Array Operand} {ts : Array TypeId} {args : List AV} {r : AV} (hc : FnC E f args r []) (hy : evO E tm c = some (.clo f [])) (hargs : evsO E tm xs.toList = some args) (hcl : closed args = true) (hdr : d2 r = true) (hd : Nat.blt d n = true)
    (h : Ops E.P E.g ops l ⟨n, (d, r) :: tm, bx⟩ Θ) : Ops E.P E.g ops (⟨some d, .call { callee := .value c, args := xs, argTypes := ts }, ty, pos, after, none⟩ :: l) ⟨n, tm, bx⟩ Θ := by
  obtain ⟨fn, h1, h2, h3⟩ := hc.fn
  have := OpOk.callV (P := E.P) (g := E.g) (s := ⟨n, tm, bx⟩) (d := d) (c := c) (xs := xs) (ts := ts) (ty := ty) (pos := pos) (after := after) (gd := none) 0 (evO_ok hy) hc.ok h1 h2 h3 (evsO_les _ _ hargs) hcl rfl rfl hdr rfl (Vm.blt hd)
  rw [sh3_zero] at this
  exact Ops.op rfl this h
end
end Go.Proofs.YtlcmnhocicehmaaDoor.Vm

/- The value machine, eighteenth part: arrays whose cells are a list of numbers that is not written out. Conditions: none. -/
namespace Go.Proofs.YtlcmnhocicehmaaDoor.Vm
open Go Go.RowKit
set_option linter.unusedVariables false
/-- Numbers as cells. -/
def ints (k : IntKind) (l : List Int) : List AV := l.map fun n => .pv (.int k n)
section
variable {E : Env} {n : Nat} {tm : List (Nat × AV)} {bx : List (Nat × Box)} {ops : Array Oper} {l : List Oper} {d : Tmp} {ty : TypeId} {pos : String} {after : Array Edge}
theorem cells_ptr {s : St} {b o : Nat} {cs : List AV} (hb : look s.bx b = some (.var cs)) : s.cellsAt (.ptr b o) = some (cs.drop o) := by
  simp only [St.cellsAt, hb]
theorem load_one {i : TI} {cs : List AV} {o : Nat} {x : AV} (hi : aggD i.desc = false) (hx : cs[o]? = some x) : loadAV i (cs.drop o) = some x := by
  unfold loadAV
  rw [hi]
  simp [List.head?_drop, hx]
/-- A cell of a variable. -/
theorem O.loadS {Θ : St → Prop} {t : TypeId} {y : Operand} {i : TI} {b o : Nat} {x : AV} {cs : List AV} (hE : E.Ok) (ht : E.T t = some i) (hi : aggD i.desc = false) (hy : evO E tm y = some (.ptr b o)) (hb : look bx b = some (.var cs)) (hx : cs[o]? = some x) (hd : Nat.blt d n = true) (h : Ops E.P E.g ops l ⟨n, (d, x) :: tm, bx⟩ Θ) :
    Ops E.P E.g ops (⟨some d, .load t y, ty, pos, after, none⟩ :: l) ⟨n, tm, bx⟩ Θ :=
  Ops.op rfl (OpOk.load (hE.t _ _ ht) (evO_ok hy) (cells_ptr hb) (load_one hi hx) (dlt hd)) h
theorem D.loadS {Θ : List Rec → St → Prop} {t : TypeId} {y : Operand} {i : TI} {b o : Nat} {x : AV} {cs : List AV} (hE : E.Ok) (ht : E.T t = some i) (hi : aggD i.desc = false) (hy : evO E tm y = some (.ptr b o)) (hb : look bx b = some (.var cs)) (hx : cs[o]? = some x) (hd : Nat.blt d n = true)
    (h : Dr E.P E.g ops l ⟨n, (d, x) :: tm, bx⟩ (fun rs => Θ (⟨rtOf y (.ptr b o), [(b, .var cs)], [], some d, x, []⟩ :: rs))) : Dr E.P E.g ops (⟨some d, .load t y, ty, pos, after, none⟩ :: l) ⟨n, tm, bx⟩ Θ :=
  D.of (rt := rtOf y (.ptr b o)) (rb := [(b, .var cs)]) (rt_now hy) (fun p hp => by simp at hp; subst hp; exact hb) hd (fun s hs hb' hd' => OpOk.load (s := s) (hE.t _ _ ht) (evO_ok (n := s.n) (bx := s.bx) (rt_ev hy hs)) (cells_ptr (hb' (b, .var cs) (by simp))) (load_one hi hx) (fun t ht => by obtain rfl := Option.some.inj ht; exact hd')) h
/-- A cell behind an address that is no variable of the call's. -/
theorem load_e {i : TI} {cs : List PV} {x : PV} (hi : aggD i.desc = false) (hx : cs[0]? = some x) : loadAV i (cs.map .pv) = some (.pv x) := by
  unfold loadAV
  rw [hi]
  cases cs with
  | nil => simp at hx
  | cons a l => simp at hx; subst hx; rfl
theorem O.loadE {Θ : St → Prop} {t : TypeId} {y : Operand} {i : TI} {x : PV} {cs : List PV} (hE : E.Ok) (ht : E.T t = some i) (hi : aggD i.desc = false) (hy : evO E tm y = some (.eptr cs)) (hx : cs[0]? = some x) (hd : Nat.blt d n = true) (h : Ops E.P E.g ops l ⟨n, (d, .pv x) :: tm, bx⟩ Θ) :
    Ops E.P E.g ops (⟨some d, .load t y, ty, pos, after, none⟩ :: l) ⟨n, tm, bx⟩ Θ :=
  Ops.op rfl (OpOk.load (hE.t _ _ ht) (evO_ok hy) rfl (load_e hi hx) (dlt hd)) h
theorem D.loadE {Θ : List Rec → St → Prop} {t : TypeId} {y : Operand} {i : TI} {x : PV} {cs : List PV} (hE : E.Ok) (ht : E.T t = some i) (hi : aggD i.desc = false) (hy : evO E tm y = some (.eptr cs)) (hx : cs[0]? = some x) (hd : Nat.blt d n = true)
    (h : Dr E.P E.g ops l ⟨n, (d, .pv x) :: tm, bx⟩ (fun rs => Θ (⟨rtOf y (.eptr cs), [], [], some d, .pv x, []⟩ :: rs))) : Dr E.P E.g ops (⟨some d, .load t y, ty, pos, after, none⟩ :: l) ⟨n, tm, bx⟩ Θ :=
  D.of (rt := rtOf y (.eptr cs)) (rb := []) (rt_now hy) none_met hd (fun s hs hb' hd' => OpOk.load (s := s) (hE.t _ _ ht) (evO_ok (n := s.n) (bx := s.bx) (rt_ev hy hs)) rfl (load_e hi hx) (fun t ht => by obtain rfl := Option.some.inj ht; exact hd')) h
/-- Numbers' bits. -/
def bitI (b : BinOp) (k : IntKind) (m j : Int) : Option Int :=
  match b with
  | .and => some (k.wrap (BitVec.ofInt k.bits m &&& BitVec.ofInt k.bits j).toNat)
  | .or => some (k.wrap (BitVec.ofInt k.bits m ||| BitVec.ofInt k.bits j).toNat)
  | .xor => some (k.wrap (BitVec.ofInt k.bits m ^^^ BitVec.ofInt k.bits j).toNat)
  | .andNot => some (k.wrap (BitVec.ofInt k.bits m &&& ~~~(BitVec.ofInt k.bits j)).toNat)
  | _ => none
theorem bitI_ok {P : Program} {b : BinOp} {t : TypeId} {k : IntKind} {m j r : Int} (h : bitI b k m j = some r) : Vm.now P (Go.binOp b t (.int k m) (.int k j)) = some (.int k r) := by
  cases b <;> simp only [bitI] at h <;> first | (cases h; done) | skip
  all_goals
    obtain rfl := Option.some.inj h
    simp only [Go.binOp, Op.intBits, ne_eq, not_true, if_false]
    rfl
/-- Two numbers, some operation: a number of that kind. -/
theorem O.bit {Θ : St → Prop} {b : BinOp} {t t' : TypeId} {y z : Operand} {k : IntKind} {m j r : Int} (hy : evO E tm y = some (.pv (.int k m))) (hz : evO E tm z = some (.pv (.int k j))) (hc : bitI b k m j = some r) (hd : Nat.blt d n = true) (h : Ops E.P E.g ops l ⟨n, (d, .pv (.int k r)) :: tm, bx⟩ Θ) :
    Ops E.P E.g ops (⟨some d, .binOp b t y z t', ty, pos, after, none⟩ :: l) ⟨n, tm, bx⟩ Θ :=
  O.bin (v := .int k r) hy hz rfl rfl (now_bin (bitI_ok hc)) rfl hd h
theorem D.bit {Θ : List Rec → St → Prop} {b : BinOp} {t t' : TypeId} {y z : Operand} {k : IntKind} {m j r : Int} (hy : evO E tm y = some (.pv (.int k m))) (hz : evO E tm z = some (.pv (.int k j))) (hc : bitI b k m j = some r) (hd : Nat.blt d n = true) (h : Dr E.P E.g ops l ⟨n, (d, .pv (.int k r)) :: tm, bx⟩ (fun rs => Θ (⟨rtOf y (.pv (.int k m)) ++ rtOf z (.pv (.int k j)), [], [], some d, .pv (.int k r), []⟩ :: rs))) :
    Dr E.P E.g ops (⟨some d, .binOp b t y z t', ty, pos, after, none⟩ :: l) ⟨n, tm, bx⟩ Θ :=
  D.bin (v := .int k r) hy hz rfl rfl (now_bin (bitI_ok hc)) rfl hd h
theorem shl_ok {P : Program} {t : TypeId} {k k' : IntKind} {m j : Int} (hj : 0 ≤ j) : Vm.now P (Go.binOp .shl t (.int k m) (.int k' j)) = some (.int k (k.wrap (m * 2 ^ (min j.toNat k.bits)))) := by
  simp only [Go.binOp, Op.shift]
  rw [if_neg (by omega)]; rfl
theorem shr_ok {P : Program} {t : TypeId} {k k' : IntKind} {m j : Int} (hj : 0 ≤ j) : Vm.now P (Go.binOp .shr t (.int k m) (.int k' j)) = some (.int k (m.fdiv (2 ^ (min j.toNat k.bits)))) := by
  simp only [Go.binOp, Op.shift]
  rw [if_neg (by omega)]; rfl
theorem D.shl {Θ : List Rec → St → Prop} {t t' : TypeId} {y z : Operand} {k k' : IntKind} {m j : Int} (hy : evO E tm y = some (.pv (.int k m))) (hz : evO E tm z = some (.pv (.int k' j))) (hj : 0 ≤ j) (hd : Nat.blt d n = true) (h : Dr E.P E.g ops l ⟨n, (d, .pv (.int k (k.wrap (m * 2 ^ (min j.toNat k.bits))))) :: tm, bx⟩ (fun rs => Θ (⟨rtOf y (.pv (.int k m)) ++ rtOf z (.pv (.int k' j)), [], [], some d, .pv (.int k (k.wrap (m * 2 ^ (min j.toNat k.bits)))), []⟩ :: rs))) :
    Dr E.P E.g ops (⟨some d, .binOp .shl t y z t', ty, pos, after, none⟩ :: l) ⟨n, tm, bx⟩ Θ :=
  D.bin (v := .int k (k.wrap (m * 2 ^ (min j.toNat k.bits)))) hy hz rfl rfl (now_bin (shl_ok hj)) rfl hd h
theorem D.shr {Θ : List Rec → St → Prop} {t t' : TypeId} {y z : Operand} {k k' : IntKind} {m j : Int} (hy : evO E tm y = some (.pv (.int k m))) (hz : evO E tm z = some (.pv (.int k' j))) (hj : 0 ≤ j) (hd : Nat.blt d n = true) (h : Dr E.P E.g ops l ⟨n, (d, .pv (.int k (m.fdiv (2 ^ (min j.toNat k.bits))))) :: tm, bx⟩ (fun rs => Θ (⟨rtOf y (.pv (.int k m)) ++ rtOf z (.pv (.int k' j)), [], [], some d, .pv (.int k (m.fdiv (2 ^ (min j.toNat k.bits)))), []⟩ :: rs))) :
    Dr E.P E.g ops (⟨some d, .binOp .shr t y z t', ty, pos, after, none⟩ :: l) ⟨n, tm, bx⟩ Θ :=
  D.bin (v := .int k (m.fdiv (2 ^ (min j.toNat k.bits)))) hy hz rfl rfl (now_bin (shr_ok hj)) rfl hd h
end
section
variable {E : Env} {n : Nat} {tm : List (Nat × AV)} {bx : List (Nat × Box)} {ops : Array Oper} {l : List Oper} {d : Tmp} {ty : TypeId} {pos : String} {after : Array Edge}
theorem OpOk.un {P : Program} {g : Gb} {s : St} {dst : Option Tmp} {b : UnOp} {t : TypeId} {y : Operand} {gd : Option (Nat × Bool)} {p : PV} {u v : Value} {x : AV} (hy : s.ev g y = .pv p) (hp : p.val? = some u) (hn : Vm.now P (Op.unary b u) = some v) (hx : AV.ofVal v = some x) (hd : ∀ t, dst = some t → t < s.n) : OpOk P g ⟨dst, .unOp b t y, ty, pos, after, gd⟩ s (s.putO dst x) := by
  refine OpOk.val (o := ⟨dst, .unOp b t y, ty, pos, after, gd⟩) hd (fun cx a w G hP hg hs => ⟨v, ?_, RA.ofVal hx⟩)
  have h1 := hs.ev hg y
  rw [hy] at h1
  have e1 : a.eval y = u := h1.of_val hp
  have := now_run _ w hn
  subst hP
  simp only [execOp, e1, Sem.run_bind, this, Result.andThen_ok, Sem.run_pure]
theorem D.un {Θ : List Rec → St → Prop} {b : UnOp} {t : TypeId} {y : Operand} {p : PV} {u v : Value} {x : AV} (hy : evO E tm y = some (.pv p)) (hp : p.val? = some u) (hn : Vm.now E.P (Op.unary b u) = some v) (hx : AV.ofVal v = some x) (hd : Nat.blt d n = true)
    (h : Dr E.P E.g ops l ⟨n, (d, x) :: tm, bx⟩ (fun rs => Θ (⟨rtOf y (.pv p), [], [], some d, x, []⟩ :: rs))) : Dr E.P E.g ops (⟨some d, .unOp b t y, ty, pos, after, none⟩ :: l) ⟨n, tm, bx⟩ Θ :=
  D.of (rt := rtOf y (.pv p)) (rb := []) (rt_now hy) none_met hd (fun s hs _ hd' => OpOk.un (s := s) (evO_ok (n := s.n) (bx := s.bx) (rt_ev hy hs)) hp hn hx (fun t ht => by obtain rfl := Option.some.inj ht; exact hd')) h
end
end Go.Proofs.YtlcmnhocicehmaaDoor.Vm

/- The value machine, nineteenth part: what is told of cells that are not written out; a function of which some result is told; states that say the same. Conditions: none. -/
namespace Go.Proofs.YtlcmnhocicehmaaDoor.Vm
open Go Go.RowKit
set_option linter.unusedVariables false
theorem mens2_app {bx : List (Nat × Box)} : ∀ a b : List AV, mens2 bx (a ++ b) = (mens2 bx a && mens2 bx b)
  | [], b => rfl
  | x :: a, b => by simp only [List.cons_append, mens2, mens2_app a b, Bool.and_assoc]
theorem ds1_app : ∀ a b : List AV, ds1 (a ++ b) = (ds1 a && ds1 b)
  | [], b => rfl
  | x :: a, b => by simp only [List.cons_append, ds1, ds1_app a b, Bool.and_assoc]
theorem mens2_ints {bx : List (Nat × Box)} {k : IntKind} : ∀ l : List Int, mens2 bx (ints k l) = true
  | [] => rfl
  | x :: l => by
    show (men2 bx (.pv (.int k x)) && mens2 bx (ints k l)) = true
    rw [mens2_ints l]; rfl
theorem mens1_app {bx : List (Nat × Box)} : ∀ a b : List AV, mens1 bx (a ++ b) = (mens1 bx a && mens1 bx b)
  | [], b => rfl
  | x :: a, b => by simp only [List.cons_append, mens1, mens1_app a b, Bool.and_assoc]
theorem ds0_app : ∀ a b : List AV, ds0 (a ++ b) = (ds0 a && ds0 b)
  | [], b => rfl
  | x :: a, b => by simp only [List.cons_append, ds0, ds0_app a b, Bool.and_assoc]
theorem mens1_ints {bx : List (Nat × Box)} {k : IntKind} : ∀ l : List Int, mens1 bx (ints k l) = true
  | [] => rfl
  | x :: l => by
    show (men1 bx (.pv (.int k x)) && mens1 bx (ints k l)) = true
    rw [mens1_ints l]; rfl
theorem ds0_ints {k : IntKind} : ∀ l : List Int, ds0 (ints k l) = true
  | [] => rfl
  | x :: l => by
    show (d0 (.pv (.int k x)) && ds0 (ints k l)) = true
    rw [ds0_ints l]; rfl
theorem ds1_ints {k : IntKind} : ∀ l : List Int, ds1 (ints k l) = true
  | [] => rfl
  | x :: l => by
    show (d1 (.pv (.int k x)) && ds1 (ints k l)) = true
    rw [ds1_ints l]; rfl
theorem ones_app : ∀ a b : List AV, ones (a ++ b) = (ones a && ones b)
  | [], b => rfl
  | x :: a, b => by simp only [List.cons_append, ones, ones_app a b, Bool.and_assoc]
theorem ones_ints {k : IntKind} : ∀ l : List Int, ones (ints k l) = true
  | [] => rfl
  | x :: l => by
    show (AV.one (.pv (.int k x)) && ones (ints k l)) = true
    rw [ones_ints l]; rfl
theorem cells_ones {cs : List AV} (h : ones cs = true) : (AV.agg cs).cells? = some cs := by
  simp only [AV.cells?, h, cond_true]
section
variable {E : Env} {n : Nat} {tm tm' : List (Nat × AV)} {bx bx' : List (Nat × Box)}
/-- An end whose results are given one by one. -/
inductive ResIs (E : Env) (tm : List (Nat × AV)) (bx : List (Nat × Box)) : List ResultVar → List AV → Prop
  | nil : ResIs E tm bx [] []
  | tmp {t : Nat} {x : AV} {l : List ResultVar} {ys : List AV} (h : look tm t = some x) (r : ResIs E tm bx l ys) : ResIs E tm bx (.tmp t :: l) (x :: ys)
  | cell {p : Nat} {t : TypeId} {b : Nat} {cs : List AV} {i : TI} {l : List ResultVar} {ys : List AV} (hp : look tm p = some (.ptr b 0)) (hb : look bx b = some (.var cs)) (ht : E.T t = some i) (ha : aggD i.desc = true) (hl : cs.length = i.size) (r : ResIs E tm bx l ys) : ResIs E tm bx (.cell p t :: l) (.agg cs :: ys)
theorem ResIs.ok (hE : E.Ok) {l : List ResultVar} {ys : List AV} (h : ResIs E tm bx l ys) : ress ⟨n, tm, bx⟩ l = some ys ∧ resTys E.P ⟨n, tm, bx⟩ l := by
  induction h with
  | nil => exact ⟨rfl, trivial⟩
  | @tmp t x l ys h r ih =>
    obtain ⟨e1, e2⟩ := ih
    refine ⟨?_, e2⟩
    simp only [ress, resAV, St.get, h, Option.getD_some, e1]
  | @cell p t b cs i l ys hp hb ht ha hl r ih =>
    obtain ⟨e1, e2⟩ := ih
    have hg : St.get ⟨n, tm, bx⟩ p = .ptr b 0 := by simp [St.get, hp]
    refine ⟨?_, ⟨i, b, cs, hE.t _ _ ht, ha, hg, hb, hl⟩, e2⟩
    simp only [ress, resAV, hg, hb, e1]
theorem Ends.ex (hE : E.Ok) {fn : Func} {r : AV} {x : Ex} {ys : List AV} (hx : x = .normal ∨ x = .ret) (hy : ResIs E tm bx fn.results.toList ys) (h1 : oneO ys = some r) (hm : men3 [] r = true) : Ends E.P fn r [] x ⟨n, tm, bx⟩ := by
  obtain ⟨e1, e2⟩ := hy.ok (n := n) hE
  refine ⟨hx, ys, e1, e2, ?_⟩
  have : oneOf ys = r := by
    cases ys with
    | nil => exact Option.some.inj h1
    | cons a l =>
      cases l with
      | nil => exact Option.some.inj h1
      | cons b l => exact Option.some.inj h1
  rw [this]
  exact SLe.res0 (AVle.of_eq rfl) hm
inductive TmIn (tm : List (Nat × AV)) : List (Nat × AV) → Prop
  | nil : TmIn tm []
  | cons {t : Nat} {x : AV} {l : List (Nat × AV)} (h : look tm t = some x) (r : TmIn tm l) : TmIn tm ((t, x) :: l)
inductive BxIn (bx : List (Nat × Box)) : List (Nat × Box) → Prop
  | nil : BxIn bx []
  | cons {b : Nat} {B : Box} {l : List (Nat × Box)} (h : look bx b = some B) (r : BxIn bx l) : BxIn bx ((b, B) :: l)
theorem TmIn.get {l : List (Nat × AV)} (h : TmIn tm l) (t : Nat) : look l t = none ∨ look l t = look tm t := by
  induction h with
  | nil => exact .inl rfl
  | @cons k x l h r ih =>
    rw [look_cons]
    by_cases e : k = t
    · rw [if_pos e]; subst e; exact .inr h.symm
    · rw [if_neg e]; exact ih
theorem BxIn.get {l : List (Nat × Box)} (h : BxIn bx l) (t : Nat) : look l t = none ∨ look l t = look bx t := by
  induction h with
  | nil => exact .inl rfl
  | @cons k x l h r ih =>
    rw [look_cons]
    by_cases e : k = t
    · rw [if_pos e]; subst e; exact .inr h.symm
    · rw [if_neg e]; exact ih
def allIn (bx' : List (Nat × Box)) : List (Nat × Box) → Bool
  | [] => true
  | (b, _) :: l => (look bx' b).isSome && allIn bx' l
theorem allIn_ok {bx' : List (Nat × Box)} : ∀ {l : List (Nat × Box)}, allIn bx' l = true → ∀ b, look l b ≠ none → look bx' b ≠ none
  | [], _, b, h => absurd rfl h
  | (c, B) :: l, h, b, hb => by
    simp only [allIn, Bool.and_eq_true] at h
    rw [look_cons] at hb
    by_cases e : c = b
    · subst e
      intro h0
      rw [h0] at h
      simp at h
    · rw [if_neg e] at hb
      exact allIn_ok h.2 b hb
/-- Two states that say the same of what the second one tells, with the same boxes. -/
theorem SLe.eqv (ht : TmIn tm tm') (hb : BxIn bx bx') (ha : allIn bx' bx = true) : SLe ⟨n, tm, bx⟩ ⟨n, tm', bx'⟩ := by
  intro cx a w G h
  have hl : ∀ b, look bx' b = look bx b := fun b => by
    rcases hb.get b with e | e
    · have := allIn_ok ha b
      rw [e] at this ⊢
      cases hq : look bx b with
      | none => rfl
      | some B => exact absurd rfl (this (by rw [hq]; simp))
    · exact e
  refine ⟨G, fun t => ?_, h.sz, h.df, h.dat, fun b B hB => h.bx b B (by rw [← hl b]; exact hB), fun b k hk => ?_, fun b x hx => ?_, h.inj, h.bel, h.low, h.glo, h.bas⟩
  · rcases ht.get t with e | e
    · have : St.get ⟨n, tm', bx'⟩ t = .any := by simp [St.get, e]
      rw [this]
      exact .any _
    · have : St.get ⟨n, tm', bx'⟩ t = St.get ⟨n, tm, bx⟩ t := by simp [St.get, e]
      rw [this]
      exact h.tm t
  · obtain ⟨⟨cs, h1, hcb⟩, hln⟩ := h.gb b k hk
    exact ⟨⟨cs, by rw [← h1]; exact hl b, hcb⟩, hln⟩
  · obtain ⟨e, sz, xs, h1⟩ := h.gl b x hx
    exact ⟨e, sz, xs, by rw [← h1]; exact hl b⟩
/-- Boxes given up. -/
theorem SLe.drop (ht : TmIn tm tm') (hb : BxIn bx bx') (hm : mtm bx' tm' = true) (hmb : mbx bx' bx' = true) : SLe ⟨n, tm, bx⟩ ⟨n, tm', bx'⟩ := by
  refine SLe.by rfl ?_ ?_ hm hmb
  · clear hm
    induction ht with
    | nil => exact .nil
    | @cons k x l h r ih => exact .cons (AVle.of_eq (by simp [St.get, h])) ih
  · clear hm hmb
    induction hb with
    | nil => exact .nil
    | @cons k x l h r ih => exact .cons h (.refl _) ih
end
theorem blockR_exit {id : Nat} {Φ : Ex → St → Prop} {s : St} (h : Φ .normal s) : blockR id Φ (.exit id) s := by
  show (if id = id then Φ .normal s else Φ (.exit id) s)
  rw [if_pos rfl]
  exact h
theorem thenR_exit {P : Program} {g : Gb} {c : Code} {id : Nat} {Φ : Ex → St → Prop} {s : St} (h : Φ (.exit id) s) : thenR P g c Φ (.exit id) s := h
theorem roundR_exit {P : Program} {g : Gb} {c : Code} {id : Nat} {Φ : Ex → St → Prop} {s : St} (h : Φ (.exit id) s) : roundR P g c Φ (.exit id) s := h
theorem blockR_pass {id i : Nat} {Φ : Ex → St → Prop} {s : St} (hi : Nat.beq i id = false) (h : Φ (.exit i) s) : blockR id Φ (.exit i) s := by
  show (if i = id then Φ .normal s else Φ (.exit i) s)
  rw [if_neg (fun e => by subst e; rw [Nat.beq_refl] at hi; cases hi)]
  exact h
/-- A loop that ends in one way: from an invariant. -/
theorem Run.loopInv {P : Program} {g : Gb} {c : Code} {s : St} {Φ : Ex → St → Prop} {ι : Type} (Inv : ι → Prop) (S : ι → St) (μ : ι → Nat) (i : ι) (h0 : Inv i) (hs : SLe s (S i))
    (round : ∀ i, Inv i → (∀ j s', SLe s' (S j) → Inv j → μ j < μ i → roundR P g c Φ .normal s') → Run P g c (S i) (roundR P g c Φ)) : Run P g (.loop c) s Φ := by
  refine LoopR.run (LoopR.ind Inv S μ i h0 hs fun i hi ih => ?_)
  exact round i hi fun j s' hle hj hlt => LoopR.pre hle (ih j hj hlt)

section
variable {P : Program} {g : Gb} {s : St}
end
section
variable {E : Env} {n : Nat} {tm : List (Nat × AV)} {bx : List (Nat × Box)} {ops : Array Oper} {l : List Oper} {Θ : St → Prop} {d : Tmp} {ty : TypeId} {pos : String} {after : Array Edge}
end
end Go.Proofs.YtlcmnhocicehmaaDoor.Vm
