/- The value machine, sixth part: states made weaker, calls, a function's contract. Conditions: none. -/
import Derived.Test.YtcbdhdblchmofaaDoorVmE
namespace Go.Proofs.YtcbdhdblchmofaaDoor.Vm
open Go Go.RowKit
set_option linter.unusedVariables false
set_option linter.unusedSimpArgs false

/-- The value names these boxes alone. -/
inductive Mentions (D : Nat → Bool) : AV → Prop
  | any : Mentions D .any
  | pv (p : PV) : Mentions D (.pv p)
  | agg (cs : List AV) (h : ∀ x ∈ cs, Mentions D x) : Mentions D (.agg cs)
  | tup (cs : List AV) (h : ∀ x ∈ cs, Mentions D x) : Mentions D (.tup cs)
  | gl (b n : Nat) (h : D b = true) : Mentions D (.gl b n)
  | ptr (b o : Nat) (h : D b = true) : Mentions D (.ptr b o)
  | vrow (b o n : Nat) (h : D b = true) : Mentions D (.vrow b o n)
  | eptr (cs : List PV) : Mentions D (.eptr cs)
  | clo (f : FuncId) (cs : List AV) (h : ∀ x ∈ cs, Mentions D x) : Mentions D (.clo f cs)
def has (bx : List (Nat × Box)) (b : Nat) : Bool := (look bx b).isSome
def men1 (bx : List (Nat × Box)) : AV → Bool
  | .any | .pv _ | .eptr _ => true
  | .gl b _ | .ptr b _ | .vrow b _ _ => has bx b
  | _ => false
def mens1 (bx : List (Nat × Box)) : List AV → Bool
  | [] => true
  | x :: xs => men1 bx x && mens1 bx xs
def men2 (bx : List (Nat × Box)) : AV → Bool
  | .agg cs | .tup cs | .clo _ cs => mens1 bx cs
  | x => men1 bx x
def mens2 (bx : List (Nat × Box)) : List AV → Bool
  | [] => true
  | x :: xs => men2 bx x && mens2 bx xs
def men3 (bx : List (Nat × Box)) : AV → Bool
  | .agg cs | .tup cs | .clo _ cs => mens2 bx cs
  | x => men1 bx x
theorem men1_ok {bx : List (Nat × Box)} {x : AV} (h : men1 bx x = true) : Mentions (has bx) x := by
  cases x with
  | any => exact .any
  | pv p => exact .pv p
  | eptr cs => exact .eptr cs
  | gl b n => exact .gl b n h
  | ptr b o => exact .ptr b o h
  | vrow b o n => exact .vrow b o n h
  | agg | tup | clo => simp [men1] at h
theorem mens1_ok {bx : List (Nat × Box)} : ∀ {l : List AV}, mens1 bx l = true → ∀ x ∈ l, Mentions (has bx) x
  | [], _, x, hx => by simp at hx
  | y :: l, h, x, hx => by
    simp only [mens1, Bool.and_eq_true] at h
    cases hx with
    | head => exact men1_ok h.1
    | tail _ hx => exact mens1_ok h.2 x hx
theorem men2_ok {bx : List (Nat × Box)} {x : AV} (h : men2 bx x = true) : Mentions (has bx) x := by
  cases x with
  | agg cs => exact .agg cs (mens1_ok h)
  | tup cs => exact .tup cs (mens1_ok h)
  | clo f cs => exact .clo f cs (mens1_ok h)
  | _ => exact men1_ok h
theorem mens2_ok {bx : List (Nat × Box)} : ∀ {l : List AV}, mens2 bx l = true → ∀ x ∈ l, Mentions (has bx) x
  | [], _, x, hx => by simp at hx
  | y :: l, h, x, hx => by
    simp only [mens2, Bool.and_eq_true] at h
    cases hx with
    | head => exact men2_ok h.1
    | tail _ hx => exact mens2_ok h.2 x hx
theorem men3_ok {bx : List (Nat × Box)} {x : AV} (h : men3 bx x = true) : Mentions (has bx) x := by
  cases x with
  | agg cs => exact .agg cs (mens2_ok h)
  | tup cs => exact .tup cs (mens2_ok h)
  | clo f cs => exact .clo f cs (mens2_ok h)
  | _ => exact men1_ok h

/-- What two ghosts that agree on those boxes say of such a value. -/
theorem RA.agree {G G' : Gh} {D : Nat → Bool} (hd : ∀ b o v, G.dat b o = some v → G'.dat b o = some v) (hb : ∀ b k, D b = true → G.blk b = some k → G'.blk b = some k) (hl : ∀ b x, D b = true → G.ls b = some x → G'.ls b = some x)
    {x : AV} {v : Value} (h : RA G x v) (hm : Mentions D x) : RA G' x v := by
  induction h with
  | any v => exact .any v
  | pv p v h => exact .pv p v (h.mono hd)
  | agg cs vs hs _ ih => cases hm with | agg _ hm => exact .agg cs vs hs fun i x v hx hv => ih i x v hx hv (hm x (List.mem_of_getElem? hx))
  | tup cs vs hs _ ih => cases hm with | tup _ hm => exact .tup cs vs hs fun i x v hx hv => ih i x v hx hv (hm x (List.mem_of_getElem? hx))
  | gl b n v sz xs h hb' hn hp hv => cases hm with | gl _ _ hm => exact .gl b n v sz xs h (hl b _ hm hb') hn (hp.mono hd) hv
  | ptr b o k hk => cases hm with | ptr _ _ hm => exact .ptr b o k (hb b k hm hk)
  | vrow b o n c k hk hc => cases hm with | vrow _ _ _ hm => exact .vrow b o n c k (hb b k hm hk) hc
  | eptr cs a hs h => exact .eptr cs a hs fun j x hx => let ⟨v, h1, h2⟩ := h j x hx; ⟨v, hd _ _ _ h1, h2.mono hd⟩
  | clo f cs vs hs _ ih => cases hm with | clo _ _ hm => exact .clo f cs vs hs fun i x v hx hv => ih i x v hx hv (hm x (List.mem_of_getElem? hx))

/-- One value says no more than another, in a state. -/
inductive AVle (s : St) : AV → AV → Prop
  | refl (x : AV) : AVle s x x
  | any (x : AV) : AVle s x .any
  | lst (x : AV) (sz : Nat) (xs : List PV) (h : s.lstOf x = some (sz, xs)) : AVle s x (.pv (.lst sz xs))
  | nil (sz : Nat) : AVle s (.pv .nil) (.pv (.lst sz []))
  | agg (xs ys : List AV) (hl : xs.length = ys.length) (h : ∀ (i : Nat) x y, xs[i]? = some x → ys[i]? = some y → AVle s x y) : AVle s (.agg xs) (.agg ys)
  | tup (xs ys : List AV) (hl : xs.length = ys.length) (h : ∀ (i : Nat) x y, xs[i]? = some x → ys[i]? = some y → AVle s x y) : AVle s (.tup xs) (.tup ys)
theorem AVle.of_eq {s : St} {x y : AV} (h : x = y) : AVle s x y := h ▸ .refl x
inductive AVles (s : St) : List AV → List AV → Prop
  | nil : AVles s [] []
  | cons {x y : AV} {xs ys : List AV} (h : AVle s x y) (t : AVles s xs ys) : AVles s (x :: xs) (y :: ys)
theorem AVles.get {s : St} {xs ys : List AV} (h : AVles s xs ys) : xs.length = ys.length ∧ ∀ (i : Nat) x y, xs[i]? = some x → ys[i]? = some y → AVle s x y := by
  induction h with
  | nil => exact ⟨rfl, fun i x y hx => by simp at hx⟩
  | cons h t ih =>
    refine ⟨by simp [ih.1], fun i x y hx hy => ?_⟩
    cases i with
    | zero => simp at hx hy; subst hx; subst hy; exact h
    | succ i => exact ih.2 i x y (by simpa using hx) (by simpa using hy)
theorem AVle.aggs {s : St} {xs ys : List AV} (h : AVles s xs ys) : AVle s (.agg xs) (.agg ys) := .agg xs ys h.get.1 h.get.2
theorem AVle.tups {s : St} {xs ys : List AV} (h : AVles s xs ys) : AVle s (.tup xs) (.tup ys) := .tup xs ys h.get.1 h.get.2

section
variable {P : Program} {g : Nat → Option (List PV)} {s s1 s' : St} {cx : Cx} {a : Act} {w : World} {G : Gh}
theorem SR.le (h : SR cx s a w G) {x y : AV} (hle : AVle s x y) : ∀ {v : Value}, RA G x v → RA G y v := by
  induction hle with
  | refl x => exact fun hv => hv
  | any x => exact fun {v} _ => .any v
  | lst x sz xs hx => exact fun hv => .pv _ _ (h.lst hv hx)
  | nil sz => intro v hv; cases hv with | pv _ _ hv => cases hv; exact .pv _ _ (RP.nil_lst sz)
  | agg xs ys hl _ ih =>
    intro v hv
    cases hv with
    | agg _ vs hs hv =>
      refine .agg ys vs (by omega) (fun i y v hy hv' => ?_)
      have hlt := (List.getElem?_eq_some_iff.1 hy).1
      exact ih i (xs[i]'(by omega)) y (List.getElem?_eq_getElem _) hy (hv i _ v (List.getElem?_eq_getElem _) hv')
  | tup xs ys hl _ ih =>
    intro v hv
    cases hv with
    | tup _ vs hs hv =>
      refine .tup ys vs (by omega) (fun i y v hy hv' => ?_)
      have hlt := (List.getElem?_eq_some_iff.1 hy).1
      exact ih i (xs[i]'(by omega)) y (List.getElem?_eq_getElem _) hy (hv i _ v (List.getElem?_eq_getElem _) hv')

inductive BxLe (s : St) : Box → Box → Prop
  | refl (B : Box) : BxLe s B B
  | var {xs ys : List AV} (h : AVles s xs ys) : BxLe s (.var xs) (.var ys)
def menB (bx : List (Nat × Box)) : Box → Bool
  | .var cs => mens2 bx cs
  | .lst _ _ _ => true
/-- A state is given up for one that says less. -/
theorem SLe.mk {tm : List (Nat × AV)} {bx : List (Nat × Box)} (ht : ∀ p ∈ tm, AVle s (s.get p.1) p.2) (hb : ∀ p ∈ bx, ∃ B, look s.bx p.1 = some B ∧ BxLe s B p.2) (hmt : ∀ p ∈ tm, men3 bx p.2 = true) (hmb : ∀ p ∈ bx, menB bx p.2 = true) : SLe s ⟨s.n, tm, bx⟩ := by
  intro cx a w G h
  have lookmem : ∀ {α : Type} (l : List (Nat × α)) (i : Nat) (x : α), look l i = some x → (i, x) ∈ l := by
    intro α l
    induction l with
    | nil => intro i x h; simp [look] at h
    | cons p l ih =>
      intro i x h
      obtain ⟨k, y⟩ := p
      rw [look_cons] at h
      by_cases c : k = i
      · rw [if_pos c] at h
        obtain rfl := Option.some.inj h
        subst c
        simp
      · rw [if_neg c] at h
        exact List.mem_cons_of_mem _ (ih i x h)
  obtain ⟨G', hG⟩ : ∃ G' : Gh, G' = ⟨G.dat, fun b => if has bx b = true then G.blk b else none, fun b => if has bx b = true then G.ls b else none⟩ := ⟨_, rfl⟩
  have hagree : ∀ {x : AV} {v : Value}, RA G x v → Mentions (has bx) x → RA G' x v := fun hx hm =>
    hx.agree (G' := G') (D := has bx) (fun _ _ _ h => by subst hG; exact h) (fun b k hD hk => by subst hG; simp [hD, hk]) (fun b x hD hk => by subst hG; simp [hD, hk]) hm
  have hown : ∀ b k, G'.own b = some k → G.own b = some k := fun b k hk => by
    subst hG
    unfold Gh.own at hk ⊢
    by_cases c : has bx b = true
    · simpa [c] using hk
    · simp [c] at hk
  have heptr : ∀ cs v, RA G (.eptr cs) v → RA G' (.eptr cs) v := fun cs v hv => hagree hv (.eptr cs)
  refine ⟨G', ⟨fun t => ?_, h.sz, h.df, fun b o v hv => h.dat b o v (by subst hG; exact hv), fun b B hB => ?_, fun b k hk => ?_, fun b x hx => ?_, fun b b' k hk hk' => h.inj b b' k (hown b k hk) (hown b' k hk'), h.bel, fun b o hb => by subst hG; exact h.low b o hb, fun gg cs hg => heptr _ _ (h.glo gg cs hg), h.bas⟩⟩
  · unfold St.get
    cases hl : look tm t with
    | none => exact .any _
    | some x =>
      have hm := lookmem tm t x hl
      exact hagree (h.le (ht _ hm) (h.tm t)) (men3_ok (hmt _ hm))
  · have hm := lookmem bx b B hB
    obtain ⟨B0, hB0, hle⟩ := hb _ hm
    have hD : has bx b = true := by simp [has, hB]
    have h1 := h.bx b B0 hB0
    have hmB := hmb _ hm
    cases hle with
    | refl =>
      cases B with
      | var cs =>
        obtain ⟨k, ty, vs, e1, e2, e3, e4, e5, e6⟩ := h1
        exact ⟨k, ty, vs, by subst hG; simp [hD, e1], e2, e3, e4, fun i x v hx hv => hagree (e5 i x v hx hv) (mens2_ok hmB x (List.mem_of_getElem? hx)), fun o => by subst hG; exact e6 o⟩
      | lst e sz xs =>
        obtain ⟨hh, us, e1, e2, e3, e4, e5⟩ := h1
        exact ⟨hh, us, by subst hG; simp [hD, e1], e2, e3, by subst hG; exact e4, fun k hk o ho => by subst hG; exact e5 k hk o ho⟩
    | var hvs =>
      rename_i xs ys
      obtain ⟨k, ty, vs, e1, e2, e3, e4, e5, e6⟩ := h1
      obtain ⟨l1, l2⟩ := hvs.get
      refine ⟨k, ty, vs, by subst hG; simp [hD, e1], e2, e3, by omega, fun i y v hy hv => ?_, fun o => by subst hG; exact e6 o⟩
      have hlt := (List.getElem?_eq_some_iff.1 hy).1
      exact hagree (h.le (l2 i (xs[i]'(by omega)) y (List.getElem?_eq_getElem _) hy) (e5 i _ v (List.getElem?_eq_getElem _) hv)) (mens2_ok hmB y (List.mem_of_getElem? hy))
  · have hD : has bx b = true := by
      subst hG
      by_cases c : has bx b = true
      · exact c
      · simp [c] at hk
    have hk0 : G.blk b = some k := by subst hG; simpa [hD] using hk
    obtain ⟨cs, hc⟩ := h.gb b k hk0
    unfold has at hD
    obtain ⟨B, hB⟩ := Option.isSome_iff_exists.1 hD
    obtain ⟨B0, hB0, hle⟩ := hb _ (lookmem bx b B hB)
    simp only at hB0
    rw [hc] at hB0
    obtain rfl := Option.some.inj hB0
    simp only at hle
    cases hle with
    | refl => exact ⟨cs, hB⟩
    | var _ => exact ⟨_, hB⟩
  · have hD : has bx b = true := by
      subst hG
      by_cases c : has bx b = true
      · exact c
      · simp [c] at hx
    have hx0 : G.ls b = some x := by subst hG; simpa [hD] using hx
    obtain ⟨e, sz, xs, hc⟩ := h.gl b x hx0
    unfold has at hD
    obtain ⟨B, hB⟩ := Option.isSome_iff_exists.1 hD
    obtain ⟨B0, hB0, hle⟩ := hb _ (lookmem bx b B hB)
    simp only at hB0
    rw [hc] at hB0
    obtain rfl := Option.some.inj hB0
    simp only at hle
    cases hle with
    | refl => exact ⟨e, sz, xs, hB⟩

/-- A function's contract: called so, it gives that, and boxes of its own with it. -/
def FnOk (P : Program) (g : Nat → Option (List PV)) (f : FuncId) (args : List AV) (r : AV) (bs : List (Nat × Box)) : Prop :=
  ∀ (w : World) (vals : Array Value) (dat : Nat → Nat → Option Value), (∀ b o v, dat b o = some v → w.cell? ⟨b, o, none⟩ = some v) → vals.size = args.length →
    (∀ (i : Nat) x v, args[i]? = some x → vals[i]? = some v → RA ⟨dat, fun _ => none, fun _ => none⟩ x v) → (∀ k cs, g k = some cs → RA ⟨dat, fun _ => none, fun _ => none⟩ (.eptr cs) (.pointer (some ⟨k, 0, none⟩))) →
    Calls P f vals w fun e w' => ∃ v G', e = .returned v ∧ SR ⟨P, w.heap.size, w, dat, g⟩ ⟨1, [(0, r)], bs⟩ ⟨#[v], []⟩ w' G'

/-- A function's result, in the state where it ends. -/
def resAV (s : St) : ResultVar → Option AV
  | .tmp t => some (s.get t)
  | .cell p _ => match s.get p with
    | .ptr b 0 => match look s.bx b with
      | some (.var cs) => some (.agg cs)
      | _ => none
    | _ => none
def ress (s : St) : List ResultVar → Option (List AV)
  | [] => some []
  | x :: xs => match resAV s x, ress s xs with
    | some y, some ys => some (y :: ys)
    | _, _ => none
def oneOf : List AV → AV
  | [x] => x
  | xs => .tup xs
/-- The result cells' types are aggregates, and as large as what they hold. -/
def resTys (P : Program) (s : St) : List ResultVar → Prop
  | [] => True
  | .tmp _ :: xs => resTys P s xs
  | .cell p t :: xs => (∃ i b cs, tiOf P t = some i ∧ aggD i.desc = true ∧ s.get p = .ptr b 0 ∧ look s.bx b = some (.var cs) ∧ cs.length = i.size) ∧ resTys P s xs
theorem run_asAddr (ad : Addr) : (asAddr (.pointer (some ad))).run P w = .ok ad w := rfl
def resOp (tmps : Array Value) : ResultVar → Sem Value
  | .tmp t => pure (tmps.getD t undef)
  | .cell p t => do loadVar t (← asAddr (tmps.getD p undef))
theorem run_resultsL (h : SR cx s a w G) : ∀ (l : List ResultVar) (ys : List AV) (acc : Array Value), ress s l = some ys → resTys cx.P s l →
    ∃ vs : List Value, vs.length = ys.length ∧ (∀ (i : Nat) y v, ys[i]? = some y → vs[i]? = some v → RA G y v) ∧
      (l.foldlM (m := Sem) (fun (acc : Array Value) (x : ResultVar) => do
        let v ← resOp a.tmps x
        pure (acc.push v)) acc).run cx.P w = .ok (acc ++ vs.toArray) w
  | [], ys, acc, hr, _ => by
    obtain rfl := Option.some.inj hr
    exact ⟨[], rfl, fun i y v hy => by simp at hy, by simp [Sem.run]⟩
  | x :: l, ys, acc, hr, ht => by
    simp only [ress] at hr
    split at hr
    · rename_i y ys' h1 h2
      obtain rfl := Option.some.inj hr
      cases x with
      | tmp t =>
        obtain ⟨vs, e1, e2, e3⟩ := run_resultsL h l ys' (acc.push (a.tmps.getD t undef)) h2 ht
        refine ⟨a.tmps.getD t undef :: vs, by simp [e1], fun i y' v hy hv => ?_, ?_⟩
        · cases i with
          | zero =>
            simp at hy hv
            subst hy
            subst hv
            simp only [resAV] at h1
            obtain rfl := Option.some.inj h1
            simpa using h.tm t
          | succ i => exact e2 i y' v (by simpa using hy) (by simpa using hv)
        · have hop : (resOp a.tmps (.tmp t)).run cx.P w = .ok (a.tmps.getD t undef) w := rfl
          simp only [List.foldlM_cons, hop, Sem.run_bind, Sem.run_pure, Result.andThen_ok]
          rw [e3]
          simp
      | cell p t =>
        obtain ⟨⟨i, b, cs, t1, t2, t3, t4, t5⟩, ht⟩ := ht
        simp only [resAV, t3, t4] at h1
        obtain rfl := Option.some.inj h1
        have h6 := h.tm p
        rw [t3] at h6
        obtain ⟨k, ty, us, b1, b2, b3, b4, b5, b6⟩ := h.bx b _ t4
        have hp : a.tmps.getD p undef = .pointer (some ⟨k, 0, none⟩) := by
          generalize a.tmps.getD p undef = v at h6
          cases h6 with
          | ptr _ _ k' hk => rw [b1] at hk; obtain rfl := Option.some.inj hk; rfl
        obtain ⟨inf, z, dd, i1, i2, i3, i4, _⟩ := tiOf_ok t1
        have hload : (loadVar t ⟨k, 0, none⟩).run cx.P w = .ok (.agg us) w := by
          refine run_loadVar_row w k ty t us (0, 0) dd b3 i2 ?_ (by rw [i1]; simp [i4, b4, t5])
          rw [← i3] at t2
          cases dd <;> simp [kOf, aggD] at t2 <;> rfl
        obtain ⟨vs, e1, e2, e3⟩ := run_resultsL h l ys' (acc.push (.agg us)) h2 ht
        refine ⟨.agg us :: vs, by simp [e1], fun i y' v hy hv => ?_, ?_⟩
        · cases i with
          | zero =>
            simp at hy hv
            subst hy
            subst hv
            exact .agg cs us b4 b5
          | succ i => exact e2 i y' v (by simpa using hy) (by simpa using hv)
        · have hop : (resOp a.tmps (.cell p t)).run cx.P w = .ok (.agg us) w := by
            simp only [resOp, Sem.run_bind, hp, run_asAddr, Result.andThen_ok, hload]
          simp only [List.foldlM_cons, Sem.run_bind, hop, Sem.run_pure, Result.andThen_ok]
          rw [e3]
          simp
    · cases hr
end
end Go.Proofs.YtcbdhdblchmofaaDoor.Vm
