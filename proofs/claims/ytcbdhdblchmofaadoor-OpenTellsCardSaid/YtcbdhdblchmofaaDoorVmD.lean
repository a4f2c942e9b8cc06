/- The value machine, fourth part: fields, elements, aggregates, lengths, cuts. Conditions: none. -/
import Derived.Test.YtcbdhdblchmofaaDoorVmC
namespace Go.Proofs.YtcbdhdblchmofaaDoor.Vm
open Go Go.RowKit
set_option linter.unusedVariables false
set_option linter.unusedSimpArgs false

/-- Where the fields of a struct lie, and how many cells each has. -/
def laysOf (P : Program) (t : TypeId) : Option (List (Nat × Nat)) :=
  match P.underlying t with
  | some (.struct fs) => bif fs.toList.all fun f => (P.info? f.type).isSome then some (fs.toList.map fun f => (f.offset, P.cellsOf f.type)) else none
  | _ => none

section
variable {P : Program} {g : Nat → Option (List PV)} {s s1 s' : St} {cx : Cx} {a : Act} {w : World} {G : Gh}

theorem laysOf_ok {t : TypeId} {l : List (Nat × Nat)} (h : laysOf P t = some l) : ∃ fs, P.underlying t = some (.struct fs) ∧ (fs.toList.all fun f => (P.info? f.type).isSome) = true ∧ l = fs.toList.map fun f => (f.offset, P.cellsOf f.type) := by
  unfold laysOf at h
  split at h
  · rename_i fs h1
    cases hb : fs.toList.all fun f => (P.info? f.type).isSome with
    | false => rw [hb] at h; cases h
    | true => rw [hb] at h; exact ⟨fs, h1, hb, (Option.some.inj h).symm⟩
  · cases h

def AV.off (k : Nat) : AV → Option AV
  | .ptr b o => some (.ptr b (o + k))
  | .eptr cs => some (.eptr (cs.drop k))
  | _ => none
theorem RA.off {x y : AV} {v : Value} {k : Nat} (h : RA G x v) (hy : x.off k = some y) : ∃ ad, v = .pointer (some ad) ∧ RA G y (.pointer (some (ad.add k))) := by
  cases h with
  | ptr b o k' hb =>
    obtain rfl := Option.some.inj hy
    exact ⟨_, rfl, by rw [add_plain0]; exact .ptr b (o + k) k' hb⟩
  | eptr cs ad hs h =>
    obtain rfl := Option.some.inj hy
    refine ⟨ad, rfl, ?_⟩
    rw [add_spot ad hs]
    refine .eptr _ _ rfl (fun j x hx => ?_)
    rw [List.getElem?_drop] at hx
    obtain ⟨v, h1, h2⟩ := h (k + j) x hx
    exact ⟨v, by rw [← h1]; congr 1; simp; omega, h2⟩
  | _ => cases hy

theorem OpOk.fieldAddr {dst : Option Tmp} {t : TypeId} {y : Operand} {f : Nat} {ty : TypeId} {pos : String} {after : Array Edge} {gd : Option (Nat × Bool)} {l : List (Nat × Nat)} {k n : Nat} {z x : AV} (hl : laysOf P t = some l) (hf : l[f]? = some (k, n + 1))
    (hy : s.ev g y = z) (hx : z.off k = some x) (hd : ∀ t, dst = some t → t < s.n) : OpOk P g ⟨dst, .fieldAddr t y f, ty, pos, after, gd⟩ s (s.putO dst x) := by
  refine OpOk.val (o := ⟨dst, .fieldAddr t y f, ty, pos, after, gd⟩) hd (fun cx a w G hP hg hs => ?_)
  obtain ⟨fs, h1, _, rfl⟩ := laysOf_ok hl
  have h2 := hs.ev hg y
  rw [hy] at h2
  obtain ⟨ad, e1, e2⟩ := h2.off hx
  rw [List.getElem?_map, Option.map_eq_some_iff] at hf
  obtain ⟨fd, h3, h4⟩ := hf
  obtain ⟨rfl, h5⟩ := Prod.mk.inj h4
  rw [Array.getElem?_toList] at h3
  refine ⟨_, ?_, e2⟩
  have hi : ∃ i, P.info? fd.type = some i ∧ i.size = n + 1 := by
    unfold Program.cellsOf at h5
    cases hq : P.info? fd.type with
    | none => rw [hq] at h5; simp at h5
    | some i => rw [hq] at h5; exact ⟨i, rfl, by simpa using h5⟩
  obtain ⟨i, h6, h7⟩ := hi
  have hu := run_underlying h1 w
  simp [execOp, Instr.fieldAt, Sem.run_bind, hu, h3, e1, Instr.sureAddr, fieldPlace, sizeOf, typeInfo, h6, h7, Result.andThen]

/-- The elements of a slice. -/
def St.lstOf (s : St) : AV → Option (Nat × List PV)
  | .pv (.lst sz xs) => some (sz, xs)
  | .gl b n => match look s.bx b with
    | some (.lst _ sz xs) => some (sz, xs.take n)
    | _ => none
  | .pv .nil => some (0, [])
  | _ => none
theorem RP.nil_lst {dat : Nat → Nat → Option Value} (sz : Nat) : RP dat (.lst sz []) (.slice none 0 0) :=
  .lst sz [] none 0 0 rfl (Nat.le_refl _) (by simp [maxLen]) (fun e he => by simp at he) (fun e he => by simp at he) (fun _ => rfl) (fun a h => by cases h) (fun a i j e x h => by cases h) (fun a i j e x v h => by cases h)
theorem SR.lst (h : SR cx s a w G) {z : AV} {v : Value} {sz : Nat} {xs : List PV} (hz : RA G z v) (hl : s.lstOf z = some (sz, xs)) : RP G.dat (.lst sz xs) v := by
  cases hz with
  | pv p v hp =>
    cases p with
    | lst sz' xs' =>
      simp only [St.lstOf] at hl
      obtain ⟨rfl, rfl⟩ := Prod.mk.inj (Option.some.inj hl)
      exact hp
    | nil =>
      simp only [St.lstOf] at hl
      obtain ⟨rfl, rfl⟩ := Prod.mk.inj (Option.some.inj hl)
      cases hp
      exact RP.nil_lst _
    | _ => simp [St.lstOf] at hl
  | gl b n v sz' xs' hh hb hn hp hv =>
    simp only [St.lstOf] at hl
    split at hl
    · rename_i e sz2 xs2 hb2
      obtain ⟨hh2, us, h1, _⟩ := h.bx b _ hb2
      rw [hb] at h1
      obtain ⟨rfl, h3⟩ := Prod.mk.inj (Option.some.inj h1)
      obtain ⟨rfl, rfl⟩ := Prod.mk.inj h3
      obtain ⟨rfl, rfl⟩ := Prod.mk.inj (Option.some.inj hl)
      exact hp
    · cases hl
  | _ => simp [St.lstOf] at hl

theorem OpOk.indexLst {dst : Option Tmp} {t e : TypeId} {y ix : Operand} {ty : TypeId} {pos : String} {after : Array Edge} {gd : Option (Nat × Bool)} {i ie : TI} {z : AV} {sz : Nat} {xs : List PV} {k : IntKind} {n : Int} {el : PV} {cs : List PV}
    (ht : tiOf P t = some i) (hk : i.desc = .slc e) (he : tiOf P e = some ie) (hy : s.ev g y = z) (hl : s.lstOf z = some (sz, xs)) (hix : s.ev g ix = .pv (.int k n)) (h0 : 0 ≤ n) (hel : xs[n.toNat]? = some el) (hsz : sz = ie.size) (hcs : el.cells = cs)
    (hd : ∀ t, dst = some t → t < s.n) : OpOk P g ⟨dst, .indexAddr t y ix, ty, pos, after, gd⟩ s (s.putO dst (.eptr cs)) := by
  refine OpOk.val (o := ⟨dst, .indexAddr t y ix, ty, pos, after, gd⟩) hd (fun cx a w G hP hg hs => ?_)
  subst hcs
  have h1 := hs.lst (hs.ev hg y) (by rw [hy]; exact hl)
  have h2 := hs.ev hg ix
  rw [hix] at h2
  have h2 := h2.int
  have hlt := (List.getElem?_eq_some_iff.1 hel).1
  generalize hv : a.eval y = v at h1
  cases h1 with
  | lst _ _ A m c hn hc hm hz h1 hnone hspot hdat hrp =>
    cases A with
    | none => rw [hnone rfl] at hlt; simp at hlt
    | some ad =>
      refine ⟨.pointer (some (ad.add (n.toNat * ie.size))), ?_, ?_⟩
      · have hu := run_underlying (tiOf_slc ht hk) w
        have hs2 := tiOf_size he w
        simp [execOp, Instr.indexAt, hv, h2, asIntOf, Sem.run_bind, hu, Result.andThen]
        rw [if_pos (by omega)]
        simp [Sem.run_bind, hs2, Result.andThen]
      · have hsp := hspot ad rfl
        rw [add_spot ad hsp]
        refine .eptr _ _ rfl (fun j x hx => ?_)
        obtain ⟨u, hu⟩ := hdat ad n.toNat j el x rfl hel hx
        subst hsz
        exact ⟨u, by rw [← hu]; congr 1; simp; omega, hrp ad n.toNat j el x u rfl hel hx hu⟩

/-- An element of an array that a pointer leads to. -/
theorem OpOk.indexArr {dst : Option Tmp} {t e : TypeId} {y ix : Operand} {ty : TypeId} {pos : String} {after : Array Edge} {gd : Option (Nat × Bool)} {i ie : TI} {z x : AV} {len : Nat} {k : IntKind} {n : Int} {m : Nat}
    (ht : tiOf P t = some i) (hk : i.desc = .arr len e) (he : tiOf P e = some ie) (hy : s.ev g y = z) (hix : s.ev g ix = .pv (.int k n)) (h0 : 0 ≤ n) (hn : n < len) (hm : n.toNat * ie.size = m) (hx : z.off m = some x)
    (hd : ∀ t, dst = some t → t < s.n) : OpOk P g ⟨dst, .indexAddr t y ix, ty, pos, after, gd⟩ s (s.putO dst x) := by
  refine OpOk.val (o := ⟨dst, .indexAddr t y ix, ty, pos, after, gd⟩) hd (fun cx a w G hP hg hs => ?_)
  have h2 := hs.ev hg ix
  rw [hix] at h2
  have h2 := h2.int
  have h3 := hs.ev hg y
  rw [hy] at h3
  obtain ⟨ad, e1, e2⟩ := h3.off hx
  refine ⟨_, ?_, e2⟩
  have hu := run_underlying (tiOf_arr ht hk) w
  have hs2 := tiOf_size he w
  simp [execOp, Instr.indexAt, e1, Instr.sureAddr, h2, asIntOf, Sem.run_bind, hu, Result.andThen]
  rw [if_pos (by omega)]
  simp [Sem.run_bind, hs2, Result.andThen, hm]

/-- The length of a slice, of a text. -/
theorem OpOk.lenLst {dst : Option Tmp} {t e : TypeId} {y : Operand} {ty : TypeId} {pos : String} {after : Array Edge} {gd : Option (Nat × Bool)} {i : TI} {z : AV} {sz : Nat} {xs : List PV} {m : Int}
    (ht : tiOf P t = some i) (hk : i.desc = .slc e) (hy : s.ev g y = z) (hl : s.lstOf z = some (sz, xs)) (hm : (xs.length : Int) = m)
    (hd : ∀ t, dst = some t → t < s.n) : OpOk P g ⟨dst, .call { callee := .builtin .len, args := #[y], argTypes := #[t] }, ty, pos, after, gd⟩ s (s.putO dst (.pv (.int .i64 m))) := by
  refine OpOk.val (o := ⟨dst, .call { callee := .builtin .len, args := #[y], argTypes := #[t] }, ty, pos, after, gd⟩) hd (fun cx a w G hP hg hs => ?_)
  have h1 := hs.lst (hs.ev hg y) (by rw [hy]; exact hl)
  generalize hv : a.eval y = v at h1
  cases h1 with
  | lst _ _ A n c hn hc _ hz h1 hnone hspot hdat hrp =>
    refine ⟨.int .i64 n, ?_, by rw [hn, hm]; exact .pv _ _ (.int _ _)⟩
    have hu := run_underlying (tiOf_slc ht hk) w
    simp [execOp, resolve, invoke, builtin, Builtin.len_, hv, hu, Sem.run_bind, Result.andThen, goInt]
theorem OpOk.lenStr {dst : Option Tmp} {t : TypeId} {y : Operand} {ty : TypeId} {pos : String} {after : Array Edge} {gd : Option (Nat × Bool)} {i : TI} {b : ByteArray} {m : Int}
    (ht : tiOf P t = some i) (hk : i.desc = .strg) (hy : s.ev g y = .pv (.str b)) (hm : (b.size : Int) = m)
    (hd : ∀ t, dst = some t → t < s.n) : OpOk P g ⟨dst, .call { callee := .builtin .len, args := #[y], argTypes := #[t] }, ty, pos, after, gd⟩ s (s.putO dst (.pv (.int .i64 m))) := by
  refine OpOk.val (o := ⟨dst, .call { callee := .builtin .len, args := #[y], argTypes := #[t] }, ty, pos, after, gd⟩) hd (fun cx a w G hP hg hs => ?_)
  have h1 := hs.ev hg y
  rw [hy] at h1
  refine ⟨.int .i64 b.size, ?_, by rw [hm]; exact .pv _ _ (.int _ _)⟩
  have hu := run_underlying (tiOf_strg ht hk) w
  simp [execOp, resolve, invoke, builtin, Builtin.len_, h1.str, hu, Sem.run_bind, Result.andThen, goInt]

theorem OpOk.extract {dst : Option Tmp} {y : Operand} {j : Nat} {ty : TypeId} {pos : String} {after : Array Edge} {gd : Option (Nat × Bool)} {xs : List AV} {x : AV} (hy : s.ev g y = .tup xs) (hx : xs[j]? = some x)
    (hd : ∀ t, dst = some t → t < s.n) : OpOk P g ⟨dst, .extract y j, ty, pos, after, gd⟩ s (s.putO dst x) := by
  refine OpOk.val (o := ⟨dst, .extract y j, ty, pos, after, gd⟩) hd (fun cx a w G hP hg hs => ?_)
  have h1 := hs.ev hg y
  rw [hy] at h1
  generalize hv : a.eval y = v at h1
  cases h1 with
  | tup _ vs hl h =>
    have hlt := (List.getElem?_eq_some_iff.1 hx).1
    refine ⟨vs[j]'(by omega), ?_, h j x _ hx (by simp [hl, hlt])⟩
    simp [execOp, Instr.extract, hv, hl, hlt, Sem.run_bind, Result.andThen]

/-- A part of an aggregate that stands in a slot. -/
def partAV (i : TI) (o : Nat) (cs : List AV) : Option AV :=
  bif aggD i.desc then (bif Nat.ble (o + i.size) cs.length then some (.agg ((cs.drop o).take i.size)) else none) else cs[o]?
theorem run_part {t : TypeId} {i : TI} {o : Nat} {cs : List AV} {vs : Array Value} {x : AV} (ht : tiOf P t = some i) (hx : partAV i o cs = some x) (hl : vs.size = cs.length) (h : ∀ (i : Nat) x v, cs[i]? = some x → vs[i]? = some v → RA G x v) :
    ∃ v, (part t vs o).run P w = .ok v w ∧ RA G x v := by
  unfold partAV at hx
  cases hag : aggD i.desc with
  | true =>
    rw [hag] at hx
    simp only [cond_true] at hx
    cases hb : Nat.ble (o + i.size) cs.length with
    | false => rw [hb] at hx; cases hx
    | true =>
      rw [hb] at hx
      simp only [cond_true] at hx
      obtain rfl := Option.some.inj hx
      have hle := Nat.le_of_ble_eq_true hb
      refine ⟨.agg (vs.extract o (o + i.size)), ?_, .agg _ _ (by simp; omega) (fun j y u hy hu => ?_)⟩
      · simp only [part, Sem.run_bind, tiOf_agg ht w, hag, Result.andThen_ok, if_true, tiOf_size ht w, Sem.run_pure]
      · have hj : j < i.size := by
          have := (List.getElem?_eq_some_iff.1 hy).1
          rw [List.length_take] at this
          omega
        rw [List.getElem?_take, if_pos hj, List.getElem?_drop] at hy
        rw [Array.getElem?_extract, if_pos (by omega)] at hu
        exact h (o + j) y u hy hu
  | false =>
    rw [hag] at hx
    simp only [cond_false] at hx
    have hlt := (List.getElem?_eq_some_iff.1 hx).1
    refine ⟨vs[o]'(by omega), ?_, h o x _ hx (by simp [hl, hlt])⟩
    simp only [part, Sem.run_bind, tiOf_agg ht w, hag, Result.andThen_ok, Bool.false_eq_true, if_false]
    simp [hl, hlt]
theorem OpOk.indexVal {dst : Option Tmp} {t e : TypeId} {y ix : Operand} {ty : TypeId} {pos : String} {after : Array Edge} {gd : Option (Nat × Bool)} {i ie : TI} {cs : List AV} {x : AV} {len : Nat} {k : IntKind} {n : Int} {m : Nat}
    (ht : tiOf P t = some i) (hk : i.desc = .arr len e) (he : tiOf P e = some ie) (hy : s.ev g y = .agg cs) (hix : s.ev g ix = .pv (.int k n)) (h0 : 0 ≤ n) (hn : n < len) (hm : n.toNat * ie.size = m) (hx : partAV ie m cs = some x)
    (hd : ∀ t, dst = some t → t < s.n) : OpOk P g ⟨dst, .index t y ix, ty, pos, after, gd⟩ s (s.putO dst x) := by
  refine OpOk.val (o := ⟨dst, .index t y ix, ty, pos, after, gd⟩) hd (fun cx a w G hP hg hs => ?_)
  have h2 := hs.ev hg ix
  rw [hix] at h2
  have h2 := h2.int
  have h3 := hs.ev hg y
  rw [hy] at h3
  generalize hv : a.eval y = v at h3
  cases h3 with
  | agg _ vs hl h =>
    obtain ⟨v, e1, e2⟩ := run_part (P := P) (w := w) he hx hl h
    refine ⟨v, ?_, e2⟩
    have hu := run_underlying (tiOf_arr ht hk) w
    simp [execOp, Instr.index, hv, h2, asIntOf, Sem.run_bind, hu, Result.andThen]
    rw [if_pos (by omega)]
    simp [Sem.run_bind, tiOf_size he w, Result.andThen, hm, e1]
theorem OpOk.indexStr {dst : Option Tmp} {t : TypeId} {y ix : Operand} {ty : TypeId} {pos : String} {after : Array Edge} {gd : Option (Nat × Bool)} {i : TI} {b : ByteArray} {k : IntKind} {n : Int} {c : UInt8}
    (ht : tiOf P t = some i) (hk : i.desc = .strg) (hy : s.ev g y = .pv (.str b)) (hix : s.ev g ix = .pv (.int k n)) (h0 : 0 ≤ n) (hc : b[n.toNat]? = some c)
    (hd : ∀ t, dst = some t → t < s.n) : OpOk P g ⟨dst, .index t y ix, ty, pos, after, gd⟩ s (s.putO dst (.pv (.int .u8 c.toNat))) := by
  refine OpOk.val (o := ⟨dst, .index t y ix, ty, pos, after, gd⟩) hd (fun cx a w G hP hg hs => ?_)
  have h2 := hs.ev hg ix
  rw [hix] at h2
  have h2 := h2.int
  have h3 := hs.ev hg y
  rw [hy] at h3
  refine ⟨.int .u8 c.toNat, ?_, .pv _ _ (.int _ _)⟩
  have hu := run_underlying (tiOf_strg ht hk) w
  simp [execOp, Instr.index, h3.str, h2, asIntOf, Sem.run_bind, hu, Result.andThen, h0, hc]

theorem RP.slice {dat : Nat → Nat → Option Value} {sz : Nat} {xs : List PV} {A : Option Addr} {n c l h m : Nat} (hp : RP dat (.lst sz xs) (.slice A n c)) (hlh : l ≤ h) (hh : h ≤ n) (hm : h ≤ m) (hmc : m ≤ c) :
    RP dat (.lst sz ((xs.take h).drop l)) (.slice (if m = l then A else A.map (·.add (l * sz))) (h - l) (m - l)) := by
  cases hp with
  | lst _ _ _ _ _ hn hc hm2 hz h1 hnone hspot hdat hrp =>
    have hel : ∀ (i : Nat) e, ((xs.take h).drop l)[i]? = some e → xs[l + i]? = some e := fun i e he => by
      rw [List.getElem?_drop, List.getElem?_take] at he
      split at he
      · exact he
      · cases he
    have hmem : ∀ e ∈ (xs.take h).drop l, e ∈ xs := fun e he => List.mem_of_mem_take (List.mem_of_mem_drop he)
    by_cases e : m = l
    · subst e
      have : h = m := by omega
      subst this
      rw [if_pos rfl]
      have h0 : (xs.take h).drop h = [] := by simp
      rw [h0]
      exact .lst sz [] A _ _ (by simp) (by omega) (by omega) (fun e he => by simp at he) (fun e he => by simp at he) (fun _ => rfl) hspot (fun a i j e x _ he => by simp at he) (fun a i j e x v _ he => by simp at he)
    · rw [if_neg e]
      refine .lst sz _ _ _ _ (by simp; omega) (by omega) (by omega) (fun e he => hz e (hmem e he)) (fun e he => h1 e (hmem e he)) (fun hA => ?_) (fun a ha => ?_) (fun a i j e x ha he hx => ?_) (fun a i j e x v ha he hx hv => ?_)
      · have hA2 : A = none := by cases A with | none => rfl | some a => simp at hA
        rw [hnone hA2]
        simp
      · cases A with
        | none => simp at ha
        | some a0 =>
          simp at ha
          subst ha
          rw [add_spot a0 (hspot a0 rfl)]
      · cases A with
        | none => simp at ha
        | some a0 =>
          simp at ha
          subst ha
          rw [add_spot a0 (hspot a0 rfl)]
          obtain ⟨v, hv⟩ := hdat a0 (l + i) j e x rfl (hel i e he) hx
          exact ⟨v, by rw [← hv]; congr 1; simp [Nat.add_mul]; omega⟩
      · cases A with
        | none => simp at ha
        | some a0 =>
          simp at ha
          subst ha
          rw [add_spot a0 (hspot a0 rfl)] at hv
          exact hrp a0 (l + i) j e x v rfl (hel i e he) hx (by rw [← hv]; congr 1; simp [Nat.add_mul]; omega)

/-- The bound of a cut: a number that stands there. -/
def bnd (s : St) (g : Nat → Option (List PV)) (d : Int) : Option Operand → Option Int
  | none => some d
  | some x => match s.ev g x with
    | .pv (.int _ n) => some n
    | _ => none
theorem run_bound {y : Nat} {k : IntKind} {n : Int} {code : BoundsCode} (h0 : 0 ≤ n) (h1 : n ≤ y) : (Instr.sliceBound (.int k n) y code).run P w = .ok n.toNat w := by
  simp only [Instr.sliceBound, asIntOf, Sem.run_bind, Sem.run_pure, Result.andThen_ok]
  rw [if_pos ⟨h0, h1⟩]
  rfl
theorem SR.bnd (hs : SR cx s a w G) (hg : cx.g = g) {d n : Int} {x : Operand} (h : Vm.bnd s g d (some x) = some n) : ∃ k, a.eval x = .int k n := by
  have h1 := hs.ev hg x
  simp only [Vm.bnd] at h
  split at h
  · rename_i k m hx
    rw [hx] at h1
    obtain rfl := Option.some.inj h
    exact ⟨k, h1.int⟩
  · cases h
theorem OpOk.sliceLst {dst : Option Tmp} {t e : TypeId} {y : Operand} {lo hi : Option Operand} {ty : TypeId} {pos : String} {after : Array Edge} {gd : Option (Nat × Bool)} {i ie : TI} {z : AV} {sz : Nat} {xs ys : List PV} {l h : Int}
    (ht : tiOf P t = some i) (hk : i.desc = .slc e) (he : tiOf P e = some ie) (hy : s.ev g y = z) (hl : s.lstOf z = some (sz, xs)) (hsz : sz = ie.size) (hlo : bnd s g 0 lo = some l) (hhi : bnd s g xs.length hi = some h)
    (h0 : 0 ≤ l) (h1 : l ≤ h) (h2 : h ≤ xs.length) (hys : (xs.take h.toNat).drop l.toNat = ys)
    (hd : ∀ t, dst = some t → t < s.n) : OpOk P g ⟨dst, .slice t y lo hi none, ty, pos, after, gd⟩ s (s.putO dst (.pv (.lst sz ys))) := by
  refine OpOk.val (o := ⟨dst, .slice t y lo hi none, ty, pos, after, gd⟩) hd (fun cx a w G hP hg hs => ?_)
  have h3 := hs.lst (hs.ev hg y) (by rw [hy]; exact hl)
  generalize hv : a.eval y = v at h3
  have h3' := h3
  cases h3' with
  | lst _ _ A n c hn hc _ hz h1' hnone hspot hdat hrp =>
    have h4 := RP.slice (l := l.toNat) (h := h.toNat) (m := c) h3 (by omega) (by omega) (by omega) (Nat.le_refl _)
    rw [hys, hsz] at h4
    refine ⟨_, ?_, by rw [hsz]; exact .pv _ _ h4⟩
    have hu := run_underlying (tiOf_slc ht hk) w
    have hs2 := tiOf_size he w
    cases lo with
    | none =>
      obtain rfl := Option.some.inj hlo
      cases hi with
      | none =>
        obtain rfl := Option.some.inj hhi
        simp [execOp, Instr.sliceAt, Instr.slice, Instr.sliceBounds, hv, hu, hs2, Sem.run_bind, Result.andThen, hn]
      | some x =>
        obtain ⟨k, e1⟩ := hs.bnd hg hhi
        simp [execOp, Instr.sliceAt, Instr.slice, Instr.sliceBounds, hv, hu, hs2, Sem.run_bind, Result.andThen, hn, e1, run_bound (P := P) (w := w) (k := k) (n := h) (y := c) (code := .sliceAcap) (by omega) (by omega)]
    | some y0 =>
      obtain ⟨k0, e0⟩ := hs.bnd hg hlo
      cases hi with
      | none =>
        obtain rfl := Option.some.inj hhi
        simp [execOp, Instr.sliceAt, Instr.slice, Instr.sliceBounds, hv, hu, hs2, Sem.run_bind, Result.andThen, hn, e0, run_bound (P := P) (w := w) (k := k0) (n := l) (y := xs.length) (code := .sliceB) (by omega) (by omega)]
      | some x =>
        obtain ⟨k, e1⟩ := hs.bnd hg hhi
        simp [execOp, Instr.sliceAt, Instr.slice, Instr.sliceBounds, hv, hu, hs2, Sem.run_bind, Result.andThen, hn, e0, e1, run_bound (P := P) (w := w) (k := k) (n := h) (y := c) (code := .sliceAcap) (by omega) (by omega),
          run_bound (P := P) (w := w) (k := k0) (n := l) (y := h.toNat) (code := .sliceB) (by omega) (by omega)]
theorem OpOk.sliceStr {dst : Option Tmp} {t : TypeId} {y : Operand} {lo hi : Option Operand} {ty : TypeId} {pos : String} {after : Array Edge} {gd : Option (Nat × Bool)} {i : TI} {b b' : ByteArray} {l h : Int}
    (ht : tiOf P t = some i) (hk : i.desc = .strg) (hy : s.ev g y = .pv (.str b)) (hlo : bnd s g 0 lo = some l) (hhi : bnd s g b.size hi = some h)
    (h0 : 0 ≤ l) (h1 : l ≤ h) (h2 : h ≤ b.size) (hb : b.extract l.toNat h.toNat = b')
    (hd : ∀ t, dst = some t → t < s.n) : OpOk P g ⟨dst, .slice t y lo hi none, ty, pos, after, gd⟩ s (s.putO dst (.pv (.str b'))) := by
  refine OpOk.val (o := ⟨dst, .slice t y lo hi none, ty, pos, after, gd⟩) hd (fun cx a w G hP hg hs => ?_)
  have h3 := hs.ev hg y
  rw [hy] at h3
  have h3 := h3.str
  subst hb
  refine ⟨_, ?_, .pv _ _ (.str _)⟩
  have hu := run_underlying (tiOf_strg ht hk) w
  cases lo with
  | none =>
    obtain rfl := Option.some.inj hlo
    cases hi with
    | none =>
      obtain rfl := Option.some.inj hhi
      simp [execOp, Instr.sliceAt, Instr.slice, Instr.sliceBounds, h3, hu, Sem.run_bind, Result.andThen]
    | some x =>
      obtain ⟨k, e1⟩ := hs.bnd hg hhi
      simp [execOp, Instr.sliceAt, Instr.slice, Instr.sliceBounds, h3, hu, Sem.run_bind, Result.andThen, e1, run_bound (P := P) (w := w) (k := k) (n := h) (y := b.size) (code := .sliceAlen) (by omega) (by omega)]
  | some y0 =>
    obtain ⟨k0, e0⟩ := hs.bnd hg hlo
    cases hi with
    | none =>
      obtain rfl := Option.some.inj hhi
      simp [execOp, Instr.sliceAt, Instr.slice, Instr.sliceBounds, h3, hu, Sem.run_bind, Result.andThen, e0, run_bound (P := P) (w := w) (k := k0) (n := l) (y := b.size) (code := .sliceB) (by omega) (by omega)]
    | some x =>
      obtain ⟨k, e1⟩ := hs.bnd hg hhi
      simp [execOp, Instr.sliceAt, Instr.slice, Instr.sliceBounds, h3, hu, Sem.run_bind, Result.andThen, e0, e1, run_bound (P := P) (w := w) (k := k) (n := h) (y := b.size) (code := .sliceAlen) (by omega) (by omega),
        run_bound (P := P) (w := w) (k := k0) (n := l) (y := h.toNat) (code := .sliceB) (by omega) (by omega)]
end
end Go.Proofs.YtcbdhdblchmofaaDoor.Vm
