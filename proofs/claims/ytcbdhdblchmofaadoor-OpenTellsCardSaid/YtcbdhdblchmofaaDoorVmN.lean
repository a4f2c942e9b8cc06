/- The value machine, fourteenth part: the rules for regions whose order is drawn. Conditions: none. -/
import Derived.Test.YtcbdhdblchmofaaDoorVmM
namespace Go.Proofs.YtcbdhdblchmofaaDoor.Vm
open Go Go.RowKit
set_option linter.unusedVariables false
set_option linter.unusedSimpArgs false

inductive Recs (P : Program) (g : Nat → Option (List PV)) (ops : Array Oper) : List Oper → St → List Rec → St → Prop
  | nil (s : St) : Recs P g ops [] s [] s
  | cons {o : Oper} {l : List Oper} {s s' : St} {r : Rec} {rs : List Rec} (h : RecOk P g ops o r) (hm : r.Met s) (t : Recs P g ops l (r.app s) rs s') : Recs P g ops (o :: l) s (r :: rs) s'
section
variable {P : Program} {g : Nat → Option (List PV)} {ops : Array Oper}
theorem Recs.get {l : List Oper} {s s' : St} {rs : List Rec} (h : Recs P g ops l s rs s') : rs.length = l.length ∧ (∀ (i : Nat) o r, l[i]? = some o → rs[i]? = some r → RecOk P g ops o r) ∧ Canon s rs ∧ ∀ k, stOf (fun _ => true) k rs s = s' := by
  induction h with
  | nil s => exact ⟨rfl, fun i o r h => by simp at h, trivial, fun k => rfl⟩
  | cons h hm t ih =>
    obtain ⟨e1, e2, e3, e4⟩ := ih
    refine ⟨by simp [e1], fun i o r ho hr => ?_, ⟨hm, e3⟩, fun k => ?_⟩
    · cases i with
      | zero => simp at ho hr; subst ho; subst hr; exact h
      | succ i => exact e2 i o r (by simpa using ho) (by simpa using hr)
    · simp only [stOf, if_true]; exact e4 (k + 1)
/-- What is left of a region whose order is drawn; what was met is kept in the order met. -/
def Dr (P : Program) (g : Nat → Option (List PV)) (ops : Array Oper) (l : List Oper) (s : St) (Θ : List Rec → St → Prop) : Prop := ∃ rs s', Recs P g ops l s rs s' ∧ Θ rs s'
theorem Dr.nil {s : St} {Θ : List Rec → St → Prop} (h : Θ [] s) : Dr P g ops [] s Θ := ⟨[], s, .nil s, h⟩
theorem Dr.cons {o : Oper} {l : List Oper} {s : St} {r : Rec} {Θ : List Rec → St → Prop} (h : RecOk P g ops o r) (hm : r.Met s) (t : Dr P g ops l (r.app s) (fun rs => Θ (r :: rs))) : Dr P g ops (o :: l) s Θ :=
  let ⟨rs, s', h1, h2⟩ := t; ⟨r :: rs, s', .cons h hm h1, h2⟩
theorem Run.draw {id : Nat} {l : List Oper} {s : St} {Φ : Ex → St → Prop} (hm : P.follows .mixedOrders = true) (hed : edgesOk 0 l = true) (h : Dr P g l.toArray l s (fun rs s' => apartAll (masks [] l) rs 0 rs = true ∧ Φ .normal s')) : Run P g (.region id l.toArray true) s Φ := by
  obtain ⟨rs, s', h1, h2, h3⟩ := h
  obtain ⟨e1, e2, e3, e4⟩ := h1.get
  have := Runs.draw (id := id) hm e1 e2 e3 hed h2
  rw [e4 0] at this
  exact ⟨_, _, this, h3⟩
end

/-- The slot that an operand is. -/
def rtOf (y : Operand) (x : AV) : List (Nat × AV) :=
  match y with
  | .tmp t => [(t, x)]
  | _ => []
def rbOf (bx : List (Nat × Box)) : AV → List (Nat × Box)
  | .ptr b _ | .gl b _ => match look bx b with
    | some B => [(b, B)]
    | none => []
  | _ => []
section
variable {E : Env} {n : Nat} {tm : List (Nat × AV)} {bx : List (Nat × Box)} {ops : Array Oper} {l : List Oper} {Θ : List Rec → St → Prop} {d : Tmp} {ty : TypeId} {pos : String} {after : Array Edge}
theorem rt_now {y : Operand} {x : AV} (h : evO E tm y = some x) : ∀ p ∈ rtOf y x, look tm p.1 = some p.2 := by
  intro p hp
  cases y <;> simp only [rtOf, List.not_mem_nil, List.mem_singleton] at hp <;> try cases hp
  exact h
theorem rt_ev {y : Operand} {x : AV} (h : evO E tm y = some x) {s : St} (hs : ∀ p ∈ rtOf y x, look s.tm p.1 = some p.2) : evO E s.tm y = some x := by
  cases y with
  | tmp t => exact hs (t, x) (by simp [rtOf])
  | const v => exact h
  | global k => exact h
  | func f => exact h
theorem rb_now {z : AV} : ∀ p ∈ rbOf bx z, look bx p.1 = some p.2 := by
  intro p hp
  cases z <;> simp only [rbOf, List.not_mem_nil] at hp <;> try cases hp
  all_goals
    split at hp
    · rename_i B hB; simp at hp; subst hp; exact hB
    · simp at hp
theorem rb_cells {z : AV} {cs : List AV} (h : cellsO bx z = some cs) {s : St} (hs : ∀ p ∈ rbOf bx z, look s.bx p.1 = some p.2) : cellsO s.bx z = some cs := by
  cases z with
  | ptr b o =>
    simp only [cellsO] at h
    split at h
    · rename_i cs0 hb
      have := hs (b, .var cs0) (by simp [rbOf, hb])
      simp only [cellsO, this]; exact h
    · cases h
  | eptr cs0 => exact h
  | _ => cases h
theorem rb_lst {z : AV} {q : Nat × List PV} (h : lstO bx z = some q) (hn : newest bx z) {s : St} (hs : ∀ p ∈ rbOf bx z, look s.bx p.1 = some p.2) : lstO s.bx z = some q ∧ newest s.bx z := by
  cases z with
  | pv p =>
    refine ⟨?_, trivial⟩
    cases p <;> simp only [lstO] at h ⊢ <;> first | exact h | cases h
  | gl b m =>
    simp only [lstO] at h
    split at h
    · rename_i e sz xs hb
      have := hs (b, .lst e sz xs) (by simp [rbOf, hb])
      refine ⟨by simp only [lstO, this]; exact h, newest_gl this (hn e sz xs hb)⟩
    · cases h
  | _ => cases h
theorem rb_pub {z : AV} {p : PV} (h : pub1O bx z = some p) {s : St} (hs : ∀ p ∈ rbOf bx z, look s.bx p.1 = some p.2) : pub1O s.bx z = some p := by
  cases z with
  | pv q => exact h
  | gl b m =>
    simp only [pub1O] at h
    split at h
    · rename_i e sz xs hb
      have := hs (b, .lst e sz xs) (by simp [rbOf, hb])
      simp only [pub1O, this]; exact h
    · cases h
  | _ => cases h
theorem met_mk {r : Rec} {s : St} (h1 : ∀ p ∈ r.rt, look s.tm p.1 = some p.2) (h2 : ∀ p ∈ r.rb, look s.bx p.1 = some p.2) (h3 : ∀ b ∈ r.nb, look s.bx b = none) (h4 : dstOk r.d s.n = true) : r.Met s := ⟨h1, h2, h3, dlt h4⟩
theorem none_met : ∀ p ∈ ([] : List (Nat × Box)), look bx p.1 = some p.2 := fun p h => by simp at h
theorem none_new : ∀ b ∈ ([] : List Nat), look bx b = none := fun b h => by simp at h
theorem mem_l {α : Type} {p : α} {a b : List α} (h : p ∈ a) : p ∈ a ++ b := List.mem_append_left _ h
theorem mem_r {α : Type} {p : α} {a b : List α} (h : p ∈ b) : p ∈ a ++ b := List.mem_append_right _ h

theorem D.move {y : Operand} {x : AV} (hx : evO E tm y = some x) (hd : Nat.blt d n = true) (h : Dr E.P E.g ops l ⟨n, (d, x) :: tm, bx⟩ (fun rs => Θ (⟨rtOf y x, [], [], some d, x, []⟩ :: rs))) : Dr E.P E.g ops (⟨some d, .move y, ty, pos, after, none⟩ :: l) ⟨n, tm, bx⟩ Θ :=
  Dr.cons (r := ⟨rtOf y x, [], [], some d, x, []⟩) (.plain rfl rfl fun s hs => OpOk.move (s := s) (evO_ok (n := s.n) (bx := s.bx) (rt_ev hx hs.t)) hs.d) (met_mk (rt_now hx) none_met none_new hd) h
theorem D.assign {y : Operand} {x : AV} (hx : evO E tm y = some x) (hd : Nat.blt d n = true) (h : Dr E.P E.g ops l ⟨n, (d, x) :: tm, bx⟩ (fun rs => Θ (⟨rtOf y x, [], [], some d, x, []⟩ :: rs))) : Dr E.P E.g ops (⟨some d, .assign y, ty, pos, after, none⟩ :: l) ⟨n, tm, bx⟩ Θ :=
  Dr.cons (r := ⟨rtOf y x, [], [], some d, x, []⟩) (.plain rfl rfl fun s hs => OpOk.assign (s := s) (evO_ok (n := s.n) (bx := s.bx) (rt_ev hx hs.t)) hs.d) (met_mk (rt_now hx) none_met none_new hd) h
/-- An operation that one rule takes from any state with these slots and boxes to that. -/
theorem D.of {op : Op} {x : AV} {rt : List (Nat × AV)} {rb : List (Nat × Box)} (h1 : ∀ p ∈ rt, look tm p.1 = some p.2) (h2 : ∀ p ∈ rb, look bx p.1 = some p.2) (hd : Nat.blt d n = true)
    (hl : ∀ s : St, (∀ p ∈ rt, look s.tm p.1 = some p.2) → (∀ p ∈ rb, look s.bx p.1 = some p.2) → d < s.n → OpOk E.P E.g ⟨some d, op, ty, pos, after, none⟩ s (s.put d x))
    (h : Dr E.P E.g ops l ⟨n, (d, x) :: tm, bx⟩ (fun rs => Θ (⟨rt, rb, [], some d, x, []⟩ :: rs))) : Dr E.P E.g ops (⟨some d, op, ty, pos, after, none⟩ :: l) ⟨n, tm, bx⟩ Θ :=
  Dr.cons (r := ⟨rt, rb, [], some d, x, []⟩) (.plain rfl rfl fun s hs => hl s hs.t hs.b (hs.d d rfl)) (met_mk h1 h2 none_new hd) h
theorem D.bin {b : BinOp} {t t' : TypeId} {y z : Operand} {p q : PV} {u u' v : Value} {x : AV} (hy : evO E tm y = some (.pv p)) (hz : evO E tm z = some (.pv q)) (hp : p.val? = some u) (hq : q.val? = some u') (hn : Vm.now E.P (do eqGuard b t y z u u'; Go.binOp b t u u') = some v) (hx : AV.ofVal v = some x) (hd : Nat.blt d n = true)
    (h : Dr E.P E.g ops l ⟨n, (d, x) :: tm, bx⟩ (fun rs => Θ (⟨rtOf y (.pv p) ++ rtOf z (.pv q), [], [], some d, x, []⟩ :: rs))) : Dr E.P E.g ops (⟨some d, .binOp b t y z t', ty, pos, after, none⟩ :: l) ⟨n, tm, bx⟩ Θ := by
  refine D.of (rt := rtOf y (.pv p) ++ rtOf z (.pv q)) (rb := []) (fun w hw => ?_) none_met hd (fun s hs _ hd' => ?_) h
  · rcases List.mem_append.1 hw with hw | hw
    · exact rt_now hy w hw
    · exact rt_now hz w hw
  · refine OpOk.val (o := ⟨some d, .binOp b t y z t', ty, pos, after, none⟩) (s := s) (fun t ht => by obtain rfl := Option.some.inj ht; exact hd') (fun cx a w G hP hg hs' => ⟨v, ?_, RA.ofVal hx⟩)
    have h1 := hs'.ev hg y
    have h2 := hs'.ev hg z
    rw [evO_ok (n := s.n) (bx := s.bx) (rt_ev hy (fun p hp => hs p (mem_l hp)))] at h1
    rw [evO_ok (n := s.n) (bx := s.bx) (rt_ev hz (fun p hp => hs p (mem_r hp)))] at h2
    have e1 : a.eval y = u := h1.of_val hp
    have e2 : a.eval z = u' := h2.of_val hq
    have := now_run _ w hn
    simp only [execOp, e1, e2]
    rw [Sem.run_bind (P := E.P) (w := w)]
    refine Eq.trans (congrArg (fun r => Result.andThen r _) this) ?_
    rfl
theorem D.conv {sr t : TypeId} {y : Operand} {k k' : IntKind} {m : Int} {i is : TI} (hE : E.Ok) (hs0 : E.T sr = some is) (ht : E.T t = some i) (hk : i.desc = .int k') (hy : evO E tm y = some (.pv (.int k m))) (hd : Nat.blt d n = true)
    (h : Dr E.P E.g ops l ⟨n, (d, .pv (.int k' (k'.wrap m))) :: tm, bx⟩ (fun rs => Θ (⟨rtOf y (.pv (.int k m)), [], [], some d, .pv (.int k' (k'.wrap m)), []⟩ :: rs))) : Dr E.P E.g ops (⟨some d, .convert sr t y, ty, pos, after, none⟩ :: l) ⟨n, tm, bx⟩ Θ := by
  refine D.of (rt := rtOf y (.pv (.int k m))) (rb := []) (rt_now hy) none_met hd (fun s hs _ hd' => ?_) h
  refine OpOk.val (o := ⟨some d, .convert sr t y, ty, pos, after, none⟩) (s := s) (fun t ht => by obtain rfl := Option.some.inj ht; exact hd') (fun cx a w G hP hg hs' => ⟨.int k' (k'.wrap m), ?_, .pv _ _ (.int _ _)⟩)
  have h1 := hs'.ev hg y
  rw [evO_ok (n := s.n) (bx := s.bx) (rt_ev hy hs)] at h1
  obtain ⟨ds, u1, _⟩ := tiOf_und (hE.t _ _ hs0)
  have u2 := tiOf_int (hE.t _ _ ht) hk
  have : (convert sr t (.int k m)).run E.P w = .ok (.int k' (k'.wrap m)) w := by
    unfold convert
    rw [Sem.run_bind, run_underlying u1 w]
    simp only [Result.andThen_ok]
    rw [Sem.run_bind, run_underlying u2 w]
    simp only [Result.andThen_ok]
    rfl
  simp only [execOp, h1.int, Sem.run_bind, this, Result.andThen_ok, Sem.run_pure]
theorem D.load {t : TypeId} {y : Operand} {i : TI} {z x : AV} {cs : List AV} (hE : E.Ok) (ht : E.T t = some i) (hy : evO E tm y = some z) (hc : cellsO bx z = some cs) (hx : loadO i cs = some x) (hd : Nat.blt d n = true)
    (h : Dr E.P E.g ops l ⟨n, (d, x) :: tm, bx⟩ (fun rs => Θ (⟨rtOf y z, rbOf bx z, [], some d, x, []⟩ :: rs))) : Dr E.P E.g ops (⟨some d, .load t y, ty, pos, after, none⟩ :: l) ⟨n, tm, bx⟩ Θ :=
  D.of (rt := rtOf y z) (rb := rbOf bx z) (rt_now hy) rb_now hd (fun s hs hb hd' => OpOk.load (s := s) (hE.t _ _ ht) (evO_ok (n := s.n) (bx := s.bx) (rt_ev hy hs)) (cellsO_ok (n := s.n) (tm := s.tm) (rb_cells hc hb)) (loadO_ok hx) (fun t ht => by obtain rfl := Option.some.inj ht; exact hd')) h
theorem D.field {t : TypeId} {y : Operand} {f : Nat} {ls : List (Nat × Nat)} {k m : Nat} {z x : AV} (hE : E.Ok) (hl : E.L t = some ls) (hf : ls[f]? = some (k, m + 1)) (hy : evO E tm y = some z) (hx : offO k z = some x) (hd : Nat.blt d n = true)
    (h : Dr E.P E.g ops l ⟨n, (d, x) :: tm, bx⟩ (fun rs => Θ (⟨rtOf y z, [], [], some d, x, []⟩ :: rs))) : Dr E.P E.g ops (⟨some d, .fieldAddr t y f, ty, pos, after, none⟩ :: l) ⟨n, tm, bx⟩ Θ :=
  D.of (rt := rtOf y z) (rb := []) (rt_now hy) none_met hd (fun s hs _ hd' => OpOk.fieldAddr (s := s) (hE.l _ _ hl) hf (evO_ok (n := s.n) (bx := s.bx) (rt_ev hy hs)) (offO_ok hx) (fun t ht => by obtain rfl := Option.some.inj ht; exact hd')) h
theorem D.indexA {t e : TypeId} {y ix : Operand} {i ie : TI} {z x : AV} {len : Nat} {k : IntKind} {m : Int} {o : Nat} (hE : E.Ok) (ht : E.T t = some i) (hk : i.desc = .arr len e) (he : E.T e = some ie) (hy : evO E tm y = some z) (hix : evO E tm ix = some (.pv (.int k m))) (h0 : 0 ≤ m) (hm : m < len) (ho : m.toNat * ie.size = o) (hx : z.off o = some x) (hd : Nat.blt d n = true)
    (h : Dr E.P E.g ops l ⟨n, (d, x) :: tm, bx⟩ (fun rs => Θ (⟨rtOf y z ++ rtOf ix (.pv (.int k m)), [], [], some d, x, []⟩ :: rs))) : Dr E.P E.g ops (⟨some d, .indexAddr t y ix, ty, pos, after, none⟩ :: l) ⟨n, tm, bx⟩ Θ := by
  refine D.of (rt := rtOf y z ++ rtOf ix (.pv (.int k m))) (rb := []) (fun w hw => ?_) none_met hd (fun s hs _ hd' => ?_) h
  · rcases List.mem_append.1 hw with hw | hw
    · exact rt_now hy w hw
    · exact rt_now hix w hw
  · exact OpOk.indexArr (s := s) (hE.t _ _ ht) hk (hE.t _ _ he) (evO_ok (n := s.n) (bx := s.bx) (rt_ev hy (fun p hp => hs p (mem_l hp)))) (evO_ok (n := s.n) (bx := s.bx) (rt_ev hix (fun p hp => hs p (mem_r hp)))) h0 hm ho hx (fun t ht => by obtain rfl := Option.some.inj ht; exact hd')
theorem D.index {t e : TypeId} {y ix : Operand} {i ie : TI} {z : AV} {q : Nat × List PV} {k : IntKind} {m : Int} {el : PV} {cs : List PV} (hE : E.Ok) (ht : E.T t = some i) (hk : i.desc = .slc e) (he : E.T e = some ie) (hy : evO E tm y = some z) (hl : lstO bx z = some q) (hn : newest bx z) (hix : evO E tm ix = some (.pv (.int k m)))
    (h0 : 0 ≤ m) (hel : q.2[m.toNat]? = some el) (hsz : q.1 = ie.size) (hcs : el.cells = cs) (hd : Nat.blt d n = true)
    (h : Dr E.P E.g ops l ⟨n, (d, .eptr cs) :: tm, bx⟩ (fun rs => Θ (⟨rtOf y z ++ rtOf ix (.pv (.int k m)), rbOf bx z, [], some d, .eptr cs, []⟩ :: rs))) : Dr E.P E.g ops (⟨some d, .indexAddr t y ix, ty, pos, after, none⟩ :: l) ⟨n, tm, bx⟩ Θ := by
  refine D.of (rt := rtOf y z ++ rtOf ix (.pv (.int k m))) (rb := rbOf bx z) (fun w hw => ?_) rb_now hd (fun s hs hb hd' => ?_) h
  · rcases List.mem_append.1 hw with hw | hw
    · exact rt_now hy w hw
    · exact rt_now hix w hw
  · obtain ⟨k1, k2⟩ := rb_lst hl hn hb
    exact OpOk.indexLst (s := s) (hE.t _ _ ht) hk (hE.t _ _ he) (evO_ok (n := s.n) (bx := s.bx) (rt_ev hy (fun p hp => hs p (mem_l hp)))) (lstO_ok (n := s.n) (tm := s.tm) k1 k2) (evO_ok (n := s.n) (bx := s.bx) (rt_ev hix (fun p hp => hs p (mem_r hp)))) h0 hel hsz hcs (fun t ht => by obtain rfl := Option.some.inj ht; exact hd')
theorem D.indexS {t : TypeId} {y ix : Operand} {i : TI} {b : ByteArray} {k : IntKind} {m : Int} {c : UInt8} (hE : E.Ok) (ht : E.T t = some i) (hk : i.desc = .strg) (hy : evO E tm y = some (.pv (.str b))) (hix : evO E tm ix = some (.pv (.int k m))) (h0 : 0 ≤ m) (hc : b[m.toNat]? = some c) (hd : Nat.blt d n = true)
    (h : Dr E.P E.g ops l ⟨n, (d, .pv (.int .u8 c.toNat)) :: tm, bx⟩ (fun rs => Θ (⟨rtOf y (.pv (.str b)) ++ rtOf ix (.pv (.int k m)), [], [], some d, .pv (.int .u8 c.toNat), []⟩ :: rs))) : Dr E.P E.g ops (⟨some d, .index t y ix, ty, pos, after, none⟩ :: l) ⟨n, tm, bx⟩ Θ := by
  refine D.of (rt := rtOf y (.pv (.str b)) ++ rtOf ix (.pv (.int k m))) (rb := []) (fun w hw => ?_) none_met hd (fun s hs _ hd' => ?_) h
  · rcases List.mem_append.1 hw with hw | hw
    · exact rt_now hy w hw
    · exact rt_now hix w hw
  · exact OpOk.indexStr (s := s) (hE.t _ _ ht) hk (evO_ok (n := s.n) (bx := s.bx) (rt_ev hy (fun p hp => hs p (mem_l hp)))) (evO_ok (n := s.n) (bx := s.bx) (rt_ev hix (fun p hp => hs p (mem_r hp)))) h0 hc (fun t ht => by obtain rfl := Option.some.inj ht; exact hd')
theorem D.lenLst {t e : TypeId} {y : Operand} {i : TI} {z : AV} {q : Nat × List PV} (hE : E.Ok) (ht : E.T t = some i) (hk : i.desc = .slc e) (hy : evO E tm y = some z) (hl : lstO bx z = some q) (hn : newest bx z) (hd : Nat.blt d n = true)
    (h : Dr E.P E.g ops l ⟨n, (d, .pv (.int .i64 q.2.length)) :: tm, bx⟩ (fun rs => Θ (⟨rtOf y z, rbOf bx z, [], some d, .pv (.int .i64 q.2.length), []⟩ :: rs))) : Dr E.P E.g ops (⟨some d, .call { callee := .builtin .len, args := #[y], argTypes := #[t] }, ty, pos, after, none⟩ :: l) ⟨n, tm, bx⟩ Θ := by
  refine D.of (rt := rtOf y z) (rb := rbOf bx z) (rt_now hy) rb_now hd (fun s hs hb hd' => ?_) h
  obtain ⟨k1, k2⟩ := rb_lst hl hn hb
  exact OpOk.lenLst (s := s) (hE.t _ _ ht) hk (evO_ok (n := s.n) (bx := s.bx) (rt_ev hy hs)) (lstO_ok (n := s.n) (tm := s.tm) k1 k2) rfl (fun t ht => by obtain rfl := Option.some.inj ht; exact hd')
theorem D.lenStr {t : TypeId} {y : Operand} {i : TI} {b : ByteArray} (hE : E.Ok) (ht : E.T t = some i) (hk : i.desc = .strg) (hy : evO E tm y = some (.pv (.str b))) (hd : Nat.blt d n = true)
    (h : Dr E.P E.g ops l ⟨n, (d, .pv (.int .i64 b.size)) :: tm, bx⟩ (fun rs => Θ (⟨rtOf y (.pv (.str b)), [], [], some d, .pv (.int .i64 b.size), []⟩ :: rs))) : Dr E.P E.g ops (⟨some d, .call { callee := .builtin .len, args := #[y], argTypes := #[t] }, ty, pos, after, none⟩ :: l) ⟨n, tm, bx⟩ Θ :=
  D.of (rt := rtOf y (.pv (.str b))) (rb := []) (rt_now hy) none_met hd (fun s hs _ hd' => OpOk.lenStr (s := s) (hE.t _ _ ht) hk (evO_ok (n := s.n) (bx := s.bx) (rt_ev hy hs)) rfl (fun t ht => by obtain rfl := Option.some.inj ht; exact hd')) h
theorem D.extract {y : Operand} {j : Nat} {xs : List AV} {x : AV} (hy : evO E tm y = some (.tup xs)) (hx : xs[j]? = some x) (hd : Nat.blt d n = true)
    (h : Dr E.P E.g ops l ⟨n, (d, x) :: tm, bx⟩ (fun rs => Θ (⟨rtOf y (.tup xs), [], [], some d, x, []⟩ :: rs))) : Dr E.P E.g ops (⟨some d, .extract y j, ty, pos, after, none⟩ :: l) ⟨n, tm, bx⟩ Θ :=
  D.of (rt := rtOf y (.tup xs)) (rb := []) (rt_now hy) none_met hd (fun s hs _ hd' => OpOk.extract (s := s) (evO_ok (n := s.n) (bx := s.bx) (rt_ev hy hs)) hx (fun t ht => by obtain rfl := Option.some.inj ht; exact hd')) h
theorem D.pick {c y z : Operand} {b : Bool} {u v x : AV} (hc : evO E tm c = some (.pv (.bool b))) (hy : evO E tm y = some u) (hz : evO E tm z = some v) (hx : (match b with | true => some u | false => some v) = some x) (hd : Nat.blt d n = true)
    (h : Dr E.P E.g ops l ⟨n, (d, x) :: tm, bx⟩ (fun rs => Θ (⟨rtOf c (.pv (.bool b)) ++ (rtOf y u ++ rtOf z v), [], [], some d, x, []⟩ :: rs))) : Dr E.P E.g ops (⟨some d, .pick c y z, ty, pos, after, none⟩ :: l) ⟨n, tm, bx⟩ Θ := by
  refine D.of (rt := rtOf c (.pv (.bool b)) ++ (rtOf y u ++ rtOf z v)) (rb := []) (fun w hw => ?_) none_met hd (fun s hs _ hd' => ?_) h
  · rcases List.mem_append.1 hw with hw | hw
    · exact rt_now hc w hw
    · rcases List.mem_append.1 hw with hw | hw
      · exact rt_now hy w hw
      · exact rt_now hz w hw
  · exact OpOk.pick (s := s) (evO_ok (n := s.n) (bx := s.bx) (rt_ev hc (fun p hp => hs p (mem_l hp)))) (by rw [evO_ok (n := s.n) (bx := s.bx) (rt_ev hy (fun p hp => hs p (mem_r (mem_l hp)))), evO_ok (n := s.n) (bx := s.bx) (rt_ev hz (fun p hp => hs p (mem_r (mem_r hp))))]; cases b <;> exact Option.some.inj hx) (fun t ht => by obtain rfl := Option.some.inj ht; exact hd')
theorem D.box {t : TypeId} {y : Operand} {z : AV} {cs : List AV} (b : Nat) (hy : evO E tm y = some z) (hc : z.cells? = some cs) (hb : look bx b = none) (hd : Nat.blt d n = true)
    (h : Dr E.P E.g ops l ⟨n, (d, .ptr b 0) :: tm, (b, .var cs) :: bx⟩ (fun rs => Θ (⟨rtOf y z, [], [b], some d, .ptr b 0, [(b, .var cs)]⟩ :: rs))) : Dr E.P E.g ops (⟨some d, .box t y, ty, pos, after, none⟩ :: l) ⟨n, tm, bx⟩ Θ :=
  Dr.cons (r := ⟨rtOf y z, [], [b], some d, .ptr b 0, [(b, .var cs)]⟩) (.plain rfl rfl fun s hs => OpOk.box (s := s) b (evO_ok (n := s.n) (bx := s.bx) (rt_ev hy hs.t)) hc (hs.n b (by simp)) (hs.d d rfl)) (met_mk (rt_now hy) none_met (fun c hc => by simp at hc; subst hc; exact hb) hd) h
theorem D.alloc {t : TypeId} {i : TI} {cs : List AV} (hE : E.Ok) (b : Nat) (ht : E.T t = some i) (hc : pvsO i.zero = some cs) (hb : look bx b = none) (hd : Nat.blt d n = true)
    (h : Dr E.P E.g ops l ⟨n, (d, .ptr b 0) :: tm, (b, .var cs) :: bx⟩ (fun rs => Θ (⟨[], [], [b], some d, .ptr b 0, [(b, .var cs)]⟩ :: rs))) : Dr E.P E.g ops (⟨some d, .alloc t, ty, pos, after, none⟩ :: l) ⟨n, tm, bx⟩ Θ := by
  have hc' := pvsO_ok _ _ hc
  exact Dr.cons (r := ⟨[], [], [b], some d, .ptr b 0, [(b, .var cs)]⟩) (.plain rfl rfl fun s hs => by
    have := OpOk.alloc (s := s) (g := E.g) (ty := ty) (pos := pos) (after := after) (gd := none) b (hE.t _ _ ht) (hs.n b (by simp)) (hs.d d rfl)
    rw [← hc'] at this
    exact this) (met_mk (fun p hp => by simp at hp) none_met (fun c hc => by simp at hc; subst hc; exact hb) hd) h
theorem D.store {t : TypeId} {y x : Operand} {i : TI} {b o : Nat} {z : AV} {cs ys cs' : List AV} (hE : E.Ok) (ht : E.T t = some i) (hy : evO E tm y = some (.ptr b o)) (hx : evO E tm x = some z) (hz : z.cells? = some ys) (hb : look bx b = some (.var cs)) (hn : Nat.beq ys.length i.size = true) (hcs : setO cs o ys = some cs')
    (h : Dr E.P E.g ops l ⟨n, tm, (b, .var cs') :: bx⟩ (fun rs => Θ (⟨rtOf y (.ptr b o) ++ rtOf x z, [(b, .var cs)], [], none, .any, [(b, .var cs')]⟩ :: rs))) : Dr E.P E.g ops (⟨none, .store t y x, ty, pos, after, none⟩ :: l) ⟨n, tm, bx⟩ Θ := by
  obtain ⟨e1, e2⟩ := setO_ok hcs
  refine Dr.cons (r := ⟨rtOf y (.ptr b o) ++ rtOf x z, [(b, .var cs)], [], none, .any, [(b, .var cs')]⟩) (.plain rfl rfl fun s hs => ?_) (met_mk (fun w hw => ?_) (fun p hp => by simp at hp; subst hp; exact hb) none_new rfl) h
  · exact OpOk.store (s := s) (hE.t _ _ ht) (evO_ok (n := s.n) (bx := s.bx) (rt_ev hy (fun p hp => hs.t p (mem_l hp)))) (evO_ok (n := s.n) (bx := s.bx) (rt_ev hx (fun p hp => hs.t p (mem_r hp)))) hz (hs.b (b, .var cs) (by simp)) (Nat.eq_of_beq_eq_true hn) (Nat.ble_eq_true_of_le e2) e1
  · rcases List.mem_append.1 hw with hw | hw
    · exact rt_now hy w hw
    · exact rt_now hx w hw
def rtsOf (E : Env) (tm : List (Nat × AV)) : List Operand → List (Nat × AV)
  | [] => []
  | .tmp t :: ys => match look tm t with
    | some x => (t, x) :: rtsOf E tm ys
    | none => rtsOf E tm ys
  | _ :: ys => rtsOf E tm ys
theorem rts_now : ∀ (ys : List Operand), ∀ p ∈ rtsOf E tm ys, look tm p.1 = some p.2
  | [], p, hp => by simp [rtsOf] at hp
  | y :: ys, p, hp => by
    cases y with
    | tmp t =>
      simp only [rtsOf] at hp
      split at hp
      · rename_i x hx
        cases hp with
        | head => exact hx
        | tail _ hp => exact rts_now ys p hp
      · exact rts_now ys p hp
    | const v => exact rts_now ys p hp
    | global k => exact rts_now ys p hp
    | func f => exact rts_now ys p hp
def evsO (E : Env) (tm : List (Nat × AV)) : List Operand → Option (List AV)
  | [] => some []
  | y :: ys => match evO E tm y, evsO E tm ys with
    | some x, some xs => some (x :: xs)
    | _, _ => none
theorem evsO_rts : ∀ (ys : List Operand) (xs : List AV), evsO E tm ys = some xs → ∀ s : St, (∀ p ∈ rtsOf E tm ys, look s.tm p.1 = some p.2) → ys.map (s.ev E.g) = xs
  | [], xs, h, s, hs => by obtain rfl := Option.some.inj h; rfl
  | y :: ys, xs, h, s, hs => by
    simp only [evsO] at h
    split at h
    · rename_i x xs' h1 h2
      obtain rfl := Option.some.inj h
      have e1 : s.ev E.g y = x := by
        refine evO_ok (n := s.n) (bx := s.bx) ?_
        cases y with
        | tmp t =>
          have hl : look tm t = some x := h1
          exact hs (t, x) (by simp [rtsOf, hl])
        | const v => exact h1
        | global k => exact h1
        | func f => exact h1
      have e2 := evsO_rts ys xs' h2 s (fun p hp => hs p (by
        cases y with
        | tmp t =>
          simp only [rtsOf]
          split
          · exact List.mem_cons_of_mem _ hp
          · exact hp
        | const v => exact hp
        | global k => exact hp
        | func f => exact hp))
      rw [List.map_cons, e1, e2]
    · cases h
/-- A call whose arguments are handed over as they are. -/
theorem D.call {f : FuncId} {xs : Array Operand} {ts : Array TypeId} {args : List AV} {r r' : AV} {bs bs' : List (Nat × Box)} (k : Nat) (hc : FnC E f args r bs) (hargs : evsO E tm xs.toList = some args) (hcl : closed args = true) (hk : freeB k bx bs = true) (hdr : d2 r = true) (hdb : dBs bs = true) (hd : Nat.blt d n = true)
    (hr : sh3 k r = r') (hbs : shBs k bs = bs') (h : Dr E.P E.g ops l ⟨n, (d, r') :: tm, bs' ++ bx⟩ (fun rs => Θ (⟨rtsOf E tm xs.toList, [], bs.map (fun p => p.1 + k), some d, r', bs'⟩ :: rs))) :
    Dr E.P E.g ops (⟨some d, .call { callee := .value (.func f), args := xs, argTypes := ts }, ty, pos, after, none⟩ :: l) ⟨n, tm, bx⟩ Θ := by
  obtain ⟨fn, h1, h2, h3⟩ := hc.fn
  subst hr
  subst hbs
  have hfree : ∀ (bs : List (Nat × Box)) (bx : List (Nat × Box)), freeB k bx bs = true ↔ ∀ b ∈ bs.map (fun p => p.1 + k), look bx b = none := by
    intro bs bx
    induction bs with
    | nil => simp [freeB]
    | cons p bs ih =>
      obtain ⟨b, B⟩ := p
      simp only [freeB, Bool.and_eq_true, Bool.not_eq_true', List.map_cons, List.forall_mem_cons, ih]
      refine and_congr ?_ Iff.rfl
      unfold has
      cases look bx (b + k) <;> simp
  refine Dr.cons (r := ⟨rtsOf E tm xs.toList, [], bs.map (fun (p : Nat × Box) => p.1 + k), some d, sh3 k r, shBs k bs⟩) (.plain rfl rfl fun s hs => ?_) (met_mk (rts_now _) none_met ((hfree bs bx).1 hk) hd) h
  refine OpOk.call (s := s) k hc.ok h1 h2 h3 ?_ hcl ((hfree bs s.bx).2 hs.n) hdr hdb (hs.d d rfl)
  rw [evsO_rts _ _ hargs s hs.t]
  have : ∀ l : List AV, AVles s l l := fun l => by
    induction l with
    | nil => exact .nil
    | cons x l ih => exact .cons (.refl x) ih
  exact this args
/-- A guard that is met. -/
theorem D.yes {o : Option Tmp} {op : Op} {j t : Nat} {b want : Bool} {Θ : List Rec → St → Prop} (hj : (ops[j]?).bind (·.dst) = some t) (ht : look tm t = some (.pv (.bool b))) (hb : b = want) (h : Dr E.P E.g ops (⟨o, op, ty, pos, after, none⟩ :: l) ⟨n, tm, bx⟩ (fun rs s => match rs with | [] => False | r :: rs => Θ ({ r with rt := (t, .pv (.bool b)) :: r.rt } :: rs) s)) :
    Dr E.P E.g ops (⟨o, op, ty, pos, after, some (j, want)⟩ :: l) ⟨n, tm, bx⟩ Θ := by
  obtain ⟨rs, s', h1, h2⟩ := h
  cases h1 with
  | cons hr hm t1 =>
    rename_i r rs
    refine ⟨{ r with rt := (t, .pv (.bool b)) :: r.rt } :: rs, s', .cons (.yes j t b want rfl ?_ hj (by simp) hb ?_) ⟨fun p hp => ?_, hm.b, hm.n, hm.d⟩ t1, h2⟩
    · cases hr with
      | plain hg hd hl => exact hd
      | yes _ _ _ _ hg => cases hg
      | no _ _ _ _ hg => cases hg
    · cases hr with
      | plain hg hd hl =>
        intro s hs cx a w G hP hg' hs'
        exact hl s ⟨fun p hp => hs.t p (List.mem_cons_of_mem _ hp), hs.b, hs.n, hs.d⟩ cx a w G hP hg' hs'
      | yes _ _ _ _ hg => cases hg
      | no _ _ _ _ hg => cases hg
    · cases hp with
      | head => exact ht
      | tail _ hp => exact hm.t p hp
theorem D.no {op : Op} {j t : Nat} {want : Bool} {x : AV} (hj : (ops[j]?).bind (·.dst) = some t) (ht : look tm t = some x) (hb : offB want x = true) (hd : Nat.blt d n = true) (h : Dr E.P E.g ops l ⟨n, (d, .tup []) :: tm, bx⟩ (fun rs => Θ (⟨[(t, x)], [], [], some d, .tup [], []⟩ :: rs))) :
    Dr E.P E.g ops (⟨some d, op, ty, pos, after, some (j, want)⟩ :: l) ⟨n, tm, bx⟩ Θ :=
  Dr.cons (r := ⟨[(t, x)], [], [], some d, .tup [], []⟩) (.no j t x want rfl rfl hj (by simp) hb rfl rfl) (met_mk (fun p hp => by simp at hp; subst hp; exact ht) none_met none_new hd) h
end
end Go.Proofs.YtcbdhdblchmofaaDoor.Vm
