/- The value machine, joined: part 4 of 4. Conditions: none. -/
import Derived.Test.YtlcmnhocicehmaaDoorVm3
import Derived.Laws.IdiomCopy
import Derived.OpenShut
import Derived.SizedLaws
import Derived.Lib.SmallJoins
import Derived.ScopeJumps
/- The value machine, twentieth part: slices of literals that will not grow. Conditions: none. -/
namespace Go.Proofs.YtlcmnhocicehmaaDoor.Vm
open Go Go.RowKit
set_option linter.unusedVariables false
set_option linter.unusedSimpArgs false
section
variable {P : Program} {g : Gb} {s : St}
theorem OpOk.buildSliceV {d : Tmp} {t e : TypeId} {len : Nat} {parts : Array (Nat × Operand)} {ty : TypeId} {pos : String} {after : Array Edge} {gd : Option (Nat × Bool)} {i ie : TI} {xs : List PV} (ht : tiOf P t = some i) (hk : i.desc = .slc e) (he : tiOf P e = some ie)
    (hz : Nat.beq ie.zero.length ie.size = true) (hpos : Nat.blt 0 ie.size = true) (hel : elems s g ie.size 0 parts.toList = some xs) (hlen : Nat.beq len parts.toList.length = true) (hlen2 : Nat.beq len xs.length = true) (hbig : Nat.ble (len * ie.size) 16777216 = true) (hd : d < s.n) :
    OpOk P g ⟨some d, .buildSlice t len parts, ty, pos, after, gd⟩ s (s.put d (.pv (.lst ie.size xs))) := by
  intro cx a w G hP hg hs K Q hK
  have hz := Nat.eq_of_beq_eq_true hz
  have hpos := Nat.le_of_ble_eq_true hpos
  have hlen := Nat.eq_of_beq_eq_true hlen
  have hlen2 := Nat.eq_of_beq_eq_true hlen2
  have hbig := Nat.le_of_ble_eq_true hbig
  obtain ⟨inf, z, dd, i1, i2, i3, i4, i5, i6, i7⟩ := tiOf_ok he
  have hzc : z.cells.size = ie.size := by
    have := (pvOfs_ok (G := G) _ _ i7).1
    rw [Array.length_toList] at this
    rw [this, hz]
  obtain ⟨us, rs, k1, k2, k3⟩ := run_elems hs hg parts.toList 0 xs ((Array.range (len * ie.size)).map (fun j => z.cells[j % z.cells.size]!)) [] hel (by simp) (by simp [hlen]) (by simp)
  simp only [List.nil_append] at k3
  have hxl : xs.length ≤ maxLen := by
    have h1 : len ≤ len * ie.size := Nat.le_mul_of_pos_right _ hpos
    simp only [maxLen]; omega
  have hu := run_underlying (tiOf_slc ht hk)
  have hrun : (execOp a.eval ⟨some d, .buildSlice t len parts, ty, pos, after, gd⟩).run P w = .ok (.value (.slice (some ⟨w.heap.size, 0, none⟩) len len)) (w.alloc (.cells rs e)) := by
    simp only [execOp, Instr.buildSlice, Sem.run_bind, hu, tiOf_size he, Result.andThen_ok]
    rw [if_neg (by omega)]
    have hpl : (parts.map fun (i, x) => (i, a.eval x)).toList = parts.toList.map (fun (i, x) => (i, a.eval x)) := by simp
    by_cases c : len * ie.size = 0
    · rw [if_pos c]
      have hsame : (Array.range (len * ie.size)).map (fun j => (#[] : Array Value)[j % (#[] : Array Value).size]!) = (Array.range (len * ie.size)).map (fun j => z.cells[j % z.cells.size]!) := by
        rw [c]; simp
      simp only [Sem.run_bind, Sem.run_pure, Result.andThen_ok, hsame, hpl, k2]
      simp [newRow, newObj, Sem.run, World.alloc, -World.alloc_eq, Sem.run_bind, Result.andThen]
    · rw [if_neg c]
      have hzv : (zeroValue e).run P w = .ok z w := by simp [zeroValue, typeInfo, i1, i6]
      simp only [Sem.run_bind, Sem.run_pure, Result.andThen_ok, hzv, hpl, k2]
      simp [newRow, newObj, Sem.run, World.alloc, -World.alloc_eq, Sem.run_bind, Result.andThen]
  have hold : ∀ k, k < w.heap.size → (w.alloc (.cells rs e)).heap[k]? = w.heap[k]? := fun k hk => by
    simp [World.alloc, -World.alloc_eq, Array.getElem?_push, show k ≠ w.heap.size by omega]
  have hsz : (w.alloc (.cells rs e)).heap.size = w.heap.size + 1 := by simp [World.alloc, -World.alloc_eq]
  have hcell : ∀ (o : Nat) v, rs[o]? = some v → (w.alloc (.cells rs e)).cell? ⟨w.heap.size, o, none⟩ = some v := fun o v hv => by
    simp [World.cell?, World.alloc, -World.alloc_eq, hv]
  obtain ⟨G', j1, j2, j3⟩ := hs.newDat (w' := w.alloc (.cells rs e)) (fun o => rs[o]?) (by rw [hsz]; omega) hold
    (hs.bel.trans ⟨rfl, rfl, rfl, by rw [hsz]; omega, fun k hk => hold k (by have := hs.basele; omega)⟩) hcell
  unfold Oper.wp
  rw [hrun]
  refine hK _ _ G' (j3.put hd (.pv _ _ ?_))
  refine .lst ie.size xs _ _ _ hlen2 (Nat.le_refl _) (by omega) k1.hz k1.h1 (fun h => by cases h) (fun ad h => by obtain rfl := Option.some.inj h; rfl) (fun ad q j p x ha hp hx => ?_) (fun ad q j p x v ha hp hx hv => ?_)
  · obtain rfl := Option.some.inj ha
    have hq := (List.getElem?_eq_some_iff.1 hp).1
    have hj := (List.getElem?_eq_some_iff.1 hx).1
    have hpz := k1.hz p (List.mem_of_getElem? hp)
    have hlt : q * ie.size + j < us.length := by rw [k1.len]; exact idx_lt hq (by omega)
    simp only [Nat.zero_add]
    rw [j2, ← Array.getElem?_toList, k3]
    exact ⟨_, List.getElem?_eq_getElem hlt⟩
  · obtain rfl := Option.some.inj ha
    simp only [Nat.zero_add] at hv
    rw [j2, ← Array.getElem?_toList, k3] at hv
    exact (k1.rel q j p x v hp hx hv).mono j1.1
end
section
variable {E : Env} {n : Nat} {tm : List (Nat × AV)} {bx : List (Nat × Box)} {ops : Array Oper} {l : List Oper} {d : Tmp} {ty : TypeId} {pos : String} {after : Array Edge}
theorem pub1O_mono {x : AV} {p : PV} (h : pub1O [] x = some p) : pub1O bx x = some p := by
  cases x <;> simp only [pub1O, look] at h ⊢ <;> first | exact h | cases h
theorem pubsO_mono : ∀ {xs : List AV} {ps : List PV}, pubsO [] xs = some ps → pubsO bx xs = some ps
  | [], ps, h => h
  | x :: xs, ps, h => by
    simp only [pubsO] at h ⊢
    split at h
    · rename_i p ps' h1 h2
      rw [pub1O_mono h1, pubsO_mono h2]; exact h
    · cases h
theorem pubO_mono {x : AV} {p : PV} (h : pubO [] x = some p) : pubO bx x = some p := by
  cases x <;> simp only [pubO, look] at h ⊢ <;> try first | exact h | cases h
  split at h
  · rename_i ps h1
    rw [pubsO_mono h1]; exact h
  · cases h
theorem elemsO_mono {sz : Nat} {s : St} : ∀ (ps : List (Nat × Operand)) (k : Nat) (r : List PV), elemsO E [] tm sz k ps = some r → (∀ p ∈ rtsOf E tm (ps.map (·.2)), look s.tm p.1 = some p.2) → elemsO E s.bx s.tm sz k ps = some r
  | [], k, r, h, _ => h
  | (i, x) :: rest, k, r, h, hs => by
    simp only [elemsO] at h ⊢
    split at h
    · rename_i p ps' h1 h2
      rw [Option.bind_eq_some_iff] at h1
      obtain ⟨y, hy, h1⟩ := h1
      have e1 : evO E s.tm x = some y := by
        cases x with
        | tmp t => exact hs (t, y) (by simp only [List.map_cons, rtsOf]; rw [show look tm t = some y from hy]; simp)
        | const v => exact hy
        | global k => exact hy
        | func f => exact hy
      have e2 := elemsO_mono rest (k + 1) ps' h2 (fun p hp => hs p (by
        simp only [List.map_cons]
        cases x with
        | tmp t =>
          simp only [rtsOf]
          split
          · exact List.mem_cons_of_mem _ hp
          · exact hp
        | const v => exact hp
        | global k => exact hp
        | func f => exact hp))
      rw [e1, e2]
      simp only [Option.bind_some, pubO_mono h1]
      exact h
    · cases h
theorem O.litV {Θ : St → Prop} {t e : TypeId} {len : Nat} {parts : Array (Nat × Operand)} {i ie : TI} {xs : List PV} (hE : E.Ok) (ht : E.T t = some i) (hk : i.desc = .slc e) (he : E.T e = some ie) (hz : Nat.beq ie.zero.length ie.size = true) (hpos : Nat.blt 0 ie.size = true) (hel : elemsO E bx tm ie.size 0 parts.toList = some xs) (hlen : Nat.beq len parts.toList.length = true) (hlen2 : Nat.beq len xs.length = true)
    (hbig : Nat.ble (len * ie.size) 16777216 = true) (hd : Nat.blt d n = true) (h : Ops E.P E.g ops l ⟨n, (d, .pv (.lst ie.size xs)) :: tm, bx⟩ Θ) : Ops E.P E.g ops (⟨some d, .buildSlice t len parts, ty, pos, after, none⟩ :: l) ⟨n, tm, bx⟩ Θ :=
  Ops.op rfl (OpOk.buildSliceV (hE.t _ _ ht) hk (hE.t _ _ he) hz hpos (elemsO_ok _ _ _ hel) hlen hlen2 hbig (Vm.blt hd)) h
theorem D.litV {Θ : List Rec → St → Prop} {t e : TypeId} {len : Nat} {parts : Array (Nat × Operand)} {i ie : TI} {xs : List PV} (hE : E.Ok) (ht : E.T t = some i) (hk : i.desc = .slc e) (he : E.T e = some ie) (hz : Nat.beq ie.zero.length ie.size = true) (hpos : Nat.blt 0 ie.size = true) (hel : elemsO E [] tm ie.size 0 parts.toList = some xs) (hlen : Nat.beq len parts.toList.length = true) (hlen2 : Nat.beq len xs.length = true)
    (hbig : Nat.ble (len * ie.size) 16777216 = true) (hd : Nat.blt d n = true) (h : Dr E.P E.g ops l ⟨n, (d, .pv (.lst ie.size xs)) :: tm, bx⟩ (fun rs => Θ (⟨rtsOf E tm (parts.toList.map (·.2)), [], [], some d, .pv (.lst ie.size xs), []⟩ :: rs))) : Dr E.P E.g ops (⟨some d, .buildSlice t len parts, ty, pos, after, none⟩ :: l) ⟨n, tm, bx⟩ Θ :=
  D.of (rt := rtsOf E tm (parts.toList.map (·.2))) (rb := []) (rts_now _) none_met hd (fun s hs _ hd' => OpOk.buildSliceV (s := s) (hE.t _ _ ht) hk (hE.t _ _ he) hz hpos (elemsO_ok (n := s.n) (tm := s.tm) (bx := s.bx) _ _ _ (elemsO_mono _ _ _ hel hs)) hlen hlen2 hbig hd') h
/-- Quotients and rests of numbers that are not below nought. -/
theorem O.quoE {Θ : St → Prop} {t t' : TypeId} {y z : Operand} {k : IntKind} {m j q : Int} (hy : evO E tm y = some (.pv (.int k m))) (hz : evO E tm z = some (.pv (.int k j))) (h0 : 0 ≤ m) (hj : 0 < j) (hq : k.wrap (m / j) = q) (hd : Nat.blt d n = true) (h : Ops E.P E.g ops l ⟨n, (d, .pv (.int k q)) :: tm, bx⟩ Θ) :
    Ops E.P E.g ops (⟨some d, .binOp .quo t y z t', ty, pos, after, none⟩ :: l) ⟨n, tm, bx⟩ Θ := by
  refine O.quo hy hz (by omega) hd ?_
  rw [Int.tdiv_eq_ediv_of_nonneg h0, hq]
  exact h
end
end Go.Proofs.YtlcmnhocicehmaaDoor.Vm

/- The value machine, twenty-first part: variables that are read alone from now on; slices of arrays. Conditions: none. -/
namespace Go.Proofs.YtlcmnhocicehmaaDoor.Vm
open Go Go.RowKit
set_option linter.unusedVariables false
set_option linter.unusedSimpArgs false
/-- What a state says once a variable is read alone: its addresses are those of cells that stay. -/
inductive TmFz (tm : List (Nat × AV)) (b : Nat) (ps : List PV) : List (Nat × AV) → Prop
  | nil : TmFz tm b ps []
  | keep {t : Nat} {x : AV} {l : List (Nat × AV)} (h : look tm t = some x) (r : TmFz tm b ps l) : TmFz tm b ps ((t, x) :: l)
  | fz {t o : Nat} {qs : List PV} {l : List (Nat × AV)} (h : look tm t = some (.ptr b o)) (hq : ps.drop o = qs) (r : TmFz tm b ps l) : TmFz tm b ps ((t, .eptr qs) :: l)
theorem TmFz.get {tm : List (Nat × AV)} {b : Nat} {ps : List PV} {l : List (Nat × AV)} (h : TmFz tm b ps l) (t : Nat) (x : AV) (hx : look l t = some x) : look tm t = some x ∨ ∃ o, look tm t = some (.ptr b o) ∧ x = .eptr (ps.drop o) := by
  induction h with
  | nil => simp [look] at hx
  | @keep k y l h r ih =>
    rw [look_cons] at hx
    by_cases e : k = t
    · rw [if_pos e] at hx; obtain rfl := Option.some.inj hx; subst e; exact .inl h
    · rw [if_neg e] at hx; exact ih hx
  | @fz k o qs l h hq r ih =>
    rw [look_cons] at hx
    by_cases e : k = t
    · rw [if_pos e] at hx; obtain rfl := Option.some.inj hx; subst e; exact .inr ⟨o, h, by rw [hq]⟩
    · rw [if_neg e] at hx; exact ih hx
theorem mtm_look {bx : List (Nat × Box)} : ∀ {l : List (Nat × AV)}, mtm bx l = true → ∀ t x, look l t = some x → men3 bx x = true
  | [], _, t, x, hx => by simp [look] at hx
  | (k, y) :: l, h, t, x, hx => by
    simp only [mtm, Bool.and_eq_true] at h
    rw [look_cons] at hx
    by_cases e : k = t
    · rw [if_pos e] at hx; obtain rfl := Option.some.inj hx; exact h.1
    · rw [if_neg e] at hx; exact mtm_look h.2 t x hx
theorem mbx_look {bx : List (Nat × Box)} : ∀ {l : List (Nat × Box)}, mbx bx l = true → ∀ t x, look l t = some x → menB bx x = true
  | [], _, t, x, hx => by simp [look] at hx
  | (k, y) :: l, h, t, x, hx => by
    simp only [mbx, Bool.and_eq_true] at h
    rw [look_cons] at hx
    by_cases e : k = t
    · rw [if_pos e] at hx; obtain rfl := Option.some.inj hx; exact h.1
    · rw [if_neg e] at hx; exact mbx_look h.2 t x hx
theorem SLe.freeze {n : Nat} {tm tm' : List (Nat × AV)} {bx bx' : List (Nat × Box)} (b : Nat) {ps : List PV} (hb : look bx b = some (.var (ps.map .pv))) (ht : TmFz tm b ps tm') (hbx : BxIn bx bx') (hnb : has bx' b = false) (hm : mtm bx' tm' = true) (hmb : mbx bx' bx' = true) : SLe ⟨n, tm, bx⟩ ⟨n, tm', bx'⟩ := by
  intro cx a w G h
  obtain ⟨k0, ty0, vs0, f1, f2, f3, f4, f5, f6⟩ := h.bx b _ hb
  obtain ⟨G', hG⟩ : ∃ G' : Gh, G' = ⟨fun c o => if c = k0 then vs0[o]? else G.dat c o, fun b => if has bx' b = true then G.blk b else none, fun b => if has bx' b = true then G.ls b else none⟩ := ⟨_, rfl⟩
  have hdat : ∀ c o v, G.dat c o = some v → G'.dat c o = some v := fun c o v hv => by
    have : c ≠ k0 := fun e => by subst e; rw [f6] at hv; cases hv
    subst hG
    simp only [this, if_false]; exact hv
  have hagree : ∀ {x : AV} {v : Value}, RA G x v → Mentions (has bx') x → RA G' x v := fun hx hm =>
    hx.agree (G' := G') (D := has bx') hdat (fun b k hD hk => by subst hG; simp [hD, hk]) (fun b x hD hk => by subst hG; simp [hD, hk]) hm
  have hown : ∀ b' k, G'.own b' = some k → G.own b' = some k ∧ has bx' b' = true := fun b' k hk => by
    subst hG
    unfold Gh.own at hk ⊢
    by_cases c : has bx' b' = true
    · exact ⟨by simpa [c] using hk, c⟩
    · simp [c] at hk
  have hk0 : G.own b = some k0 := h.own_var f1
  have hne : ∀ b' k, has bx' b' = true → G.own b' = some k → k ≠ k0 := fun b' k hb' hk e => by
    subst e
    have := h.inj b' b k hk hk0
    subst this
    rw [hnb] at hb'; cases hb'
  have heptr : ∀ cs v, RA G (.eptr cs) v → RA G' (.eptr cs) v := fun cs v hv => hagree hv (.eptr cs)
  refine ⟨G', ⟨fun t => ?_, h.sz, h.df, fun c o v hv => ?_, fun b' B hB => ?_, fun b' k hk => ?_, fun b' x hx => ?_, fun b1 b2 k hk hk' => h.inj b1 b2 k (hown b1 k hk).1 (hown b2 k hk').1, h.bel, ⟨fun c o hc hmy => ?_, fun c o v hv => hdat c o v (h.low.2 c o v hv)⟩, fun gg cs hg => heptr _ _ (h.glo gg cs hg), h.bas⟩⟩
  · unfold St.get
    cases hl : look tm' t with
    | none => exact .any _
    | some x =>
      have hx := mtm_look hm t x hl
      have h1 := h.tm t
      rcases ht.get t x hl with e | ⟨o, e, rfl⟩
      · have : St.get ⟨n, tm, bx⟩ t = x := by simp [St.get, e]
        rw [this] at h1
        exact hagree h1 (men3_ok hx)
      · have : St.get ⟨n, tm, bx⟩ t = .ptr b o := by simp [St.get, e]
        rw [this] at h1
        generalize a.tmps.getD t undef = v at h1
        cases h1 with
        | ptr _ _ k' hk' =>
          rw [f1] at hk'
          obtain rfl := Option.some.inj hk'
          refine .eptr _ _ rfl fun j x hx => ?_
          rw [List.getElem?_drop] at hx
          have hlt : o + j < vs0.size := by
            have := (List.getElem?_eq_some_iff.1 hx).1
            have f4' := f4
            rw [List.length_map] at f4'
            omega
          refine ⟨vs0[o + j], by subst hG; simp [hlt], ?_⟩
          have := f5 (o + j) (.pv x) vs0[o + j] (by simp [hx]) (Array.getElem?_eq_getElem hlt)
          cases this with
          | pv _ _ hp => exact hp.mono hdat
  · by_cases e : c = k0
    · subst e
      have hv' : vs0[o]? = some v := by subst hG; simpa using hv
      simp [World.cell?, f3, hv']
    · have hv' : G.dat c o = some v := by subst hG; simpa [e] using hv
      exact h.dat c o v hv'
  · have hD : has bx' b' = true := by simp [has, hB]
    have hB0 : look bx b' = some B := by
      rcases hbx.get b' with e | e
      · rw [e] at hB; cases hB
      · rw [← e]; exact hB
    have h1 := h.bx b' B hB0
    have hmB := mbx_look hmb b' B hB
    cases B with
    | var cs =>
      obtain ⟨k, ty, vs, e1, e2, e3, e4, e5, e6⟩ := h1
      have hk : k ≠ k0 := hne b' k hD (h.own_var e1)
      exact ⟨k, ty, vs, by subst hG; simp [hD, e1], e2, e3, e4, fun i x v hx hv => hagree (e5 i x v hx hv) (mens2_ok hmB x (List.mem_of_getElem? hx)), fun o => by subst hG; simp only [hk, if_false]; exact e6 o⟩
    | lst e sz xs =>
      obtain ⟨hh, us, e1, e2, e3, e4, e5⟩ := h1
      refine ⟨hh, us, by subst hG; simp [hD, e1], e2, e3, e4.mono hdat, fun k hk o ho => ?_⟩
      have hk' : k ≠ k0 := hne b' k hD ((h.own_lst e1).trans hk)
      subst hG
      simp only [hk', if_false]
      exact e5 k hk o ho
    | iter s0 pos =>
      obtain ⟨k, e1, e2, e3, e4⟩ := h1
      have hk : k ≠ k0 := hne b' k hD (h.own_var e1)
      exact ⟨k, by subst hG; simp [hD, e1], e2, e3, fun o => by subst hG; simp only [hk, if_false]; exact e4 o⟩
  · have hD : has bx' b' = true := by
      subst hG
      by_cases c : has bx' b' = true
      · exact c
      · simp [c] at hk
    have hk1 : G.blk b' = some k := by subst hG; simpa [hD] using hk
    obtain ⟨⟨cs, hc, hcb⟩, hln⟩ := h.gb b' k hk1
    unfold has at hD
    obtain ⟨B, hB⟩ := Option.isSome_iff_exists.1 hD
    rcases hbx.get b' with e | e
    · rw [e] at hB; cases hB
    · exact ⟨⟨cs, e.trans hc, hcb⟩, hln⟩
  · have hD : has bx' b' = true := by
      subst hG
      by_cases c : has bx' b' = true
      · exact c
      · simp [c] at hx
    have hx1 : G.ls b' = some x := by subst hG; simpa [hD] using hx
    obtain ⟨e0, sz, xs, hc⟩ := h.gl b' x hx1
    unfold has at hD
    obtain ⟨B, hB⟩ := Option.isSome_iff_exists.1 hD
    rcases hbx.get b' with e | e
    · rw [e] at hB; cases hB
    · exact ⟨e0, sz, xs, e.trans hc⟩
  · have : c ≠ k0 := fun e => by
      subst e
      rcases f2 with h1 | h1
      · omega
      · exact hmy h1
    subst hG
    simp only [this, if_false]
    exact h.low.1 c o hc hmy
theorem Run.freeze {P : Program} {g : Gb} {c : Code} {Φ : Ex → St → Prop} {n : Nat} {tm tm' : List (Nat × AV)} {bx bx' : List (Nat × Box)} (b : Nat) {ps : List PV} (hb : look bx b = some (.var (ps.map .pv))) (ht : TmFz tm b ps tm') (hbx : BxIn bx bx') (hnb : has bx' b = false) (hm : mtm bx' tm' = true) (hmb : mbx bx' bx' = true)
    (h : Run P g c ⟨n, tm', bx'⟩ Φ) : Run P g c ⟨n, tm, bx⟩ Φ := Run.pre (SLe.freeze b hb ht hbx hnb hm hmb) h
section
variable {P : Program} {g : Gb} {s : St}
end

section
variable {P : Program} {g : Gb} {s : St}
end
section
variable {E : Env} {n : Nat} {tm : List (Nat × AV)} {bx : List (Nat × Box)} {ops : Array Oper} {l : List Oper} {d : Tmp} {ty : TypeId} {pos : String} {after : Array Edge}
end

theorem lenC {α β : Type} {l : List α} {f : α → β} : ((l.map f).length : Int) = l.length := by rw [List.length_map]
section
variable {E : Env} {n : Nat} {tm : List (Nat × AV)} {bx : List (Nat × Box)} {ops : Array Oper} {l : List Oper} {d : Tmp} {ty : TypeId} {pos : String} {after : Array Edge}
theorem O.lenN {Θ : St → Prop} {t e : TypeId} {y : Operand} {i : TI} {z : AV} {q : Nat × List PV} {m : Int} (hE : E.Ok) (ht : E.T t = some i) (hk : i.desc = .slc e) (hy : evO E tm y = some z) (hl : lstO bx z = some q) (hn : newest bx z) (hm : (q.2.length : Int) = m) (hd : Nat.blt d n = true) (h : Ops E.P E.g ops l ⟨n, (d, .pv (.int .i64 m)) :: tm, bx⟩ Θ) :
    Ops E.P E.g ops (⟨some d, .call { callee := .builtin .len, args := #[y], argTypes := #[t] }, ty, pos, after, none⟩ :: l) ⟨n, tm, bx⟩ Θ := by
  subst hm
  exact O.lenLst hE ht hk hy hl hn hd h
end

section
variable {E : Env} {n : Nat} {tm : List (Nat × AV)} {bx : List (Nat × Box)} {ops : Array Oper} {l : List Oper} {d : Tmp} {ty : TypeId} {pos : String} {after : Array Edge}
end
end Go.Proofs.YtlcmnhocicehmaaDoor.Vm

/- The value machine, twenty-second part: what an argument reads as. Conditions: none. -/
namespace Go.Proofs.YtlcmnhocicehmaaDoor.Vm
open Go Go.RowKit Go.ChangeShapes Go.WideShapes Go.ChangeAt
set_option linter.unusedVariables false
theorem list_of {α : Type} : ∀ {n : Nat} {p : Nat → α → Prop}, (∀ i, i < n → ∃ z, p i z) → ∃ zs : List α, zs.length = n ∧ ∀ (i : Nat) (z : α), zs[i]? = some z → p i z
  | 0, _, _ => ⟨[], rfl, fun i z h => by simp at h⟩
  | n + 1, p, h => by
    obtain ⟨zs, hl, hz⟩ := list_of (n := n) (p := p) (fun i hi => h i (by omega))
    obtain ⟨y, hy⟩ := h n (by omega)
    refine ⟨zs ++ [y], by simp [hl], fun i z hi => ?_⟩
    rcases Nat.lt_or_ge i n with hlt | hge
    · rw [List.getElem?_append_left (by omega)] at hi
      exact hz i z hi
    · rw [List.getElem?_append_right (by omega)] at hi
      have h0 : i - zs.length = 0 := by
        have := (List.getElem?_eq_some_iff.1 hi).1
        simp at this
        omega
      rw [h0] at hi
      simp at hi
      subst hi
      rw [show i = n from by omega]
      exact hy
/-- Numbers that stand one behind another, as a list. -/
theorem RP.numbers {dat : Nat → Nat → Option Value} {k : IntKind} {a : Addr} {l : List Int} {c : Nat} (hs : a.spot = none) (hc : l.length ≤ c) (hm : c ≤ maxLen) (h : ∀ (i : Nat) z, l[i]? = some z → dat a.block (a.off + i) = some (.int k z)) : RP dat (.lst 1 (l.map (PV.int k))) (.slice (some a) l.length c) := by
  refine .lst 1 _ _ _ _ (by simp) hc hm (fun p hp => ?_) (fun p hp q hq => ?_) (fun h => by cases h) (fun a' h => by obtain rfl := Option.some.inj h; exact hs) (fun a' q j p x ha hp hx => ?_) (fun a' q j p x v ha hp hx hv => ?_)
  · obtain ⟨z, _, rfl⟩ := List.mem_map.1 hp; rfl
  · obtain ⟨z, _, rfl⟩ := List.mem_map.1 hp
    simp [PV.cells] at hq
    subst hq; rfl
  · obtain rfl := Option.some.inj ha
    rw [List.getElem?_map, Option.map_eq_some_iff] at hp
    obtain ⟨z, hz, rfl⟩ := hp
    cases j with
    | zero => exact ⟨_, by simpa using h q z hz⟩
    | succ j => simp [PV.cells] at hx
  · obtain rfl := Option.some.inj ha
    rw [List.getElem?_map, Option.map_eq_some_iff] at hp
    obtain ⟨z, hz, rfl⟩ := hp
    cases j with
    | zero =>
      simp only [Nat.mul_one, Nat.add_zero] at hv
      rw [h q z hz] at hv
      obtain rfl := Option.some.inj hv
      simp [PV.cells] at hx
      subst hx
      exact .int _ _
    | succ j => simp [PV.cells] at hx
/-- The arguments, one by one. -/
inductive RAs (G : Gh) : List AV → List Value → Prop
  | nil : RAs G [] []
  | cons {x : AV} {v : Value} {xs : List AV} {vs : List Value} (h : RA G x v) (r : RAs G xs vs) : RAs G (x :: xs) (v :: vs)
theorem RAs.get {G : Gh} {xs : List AV} {vs : List Value} (h : RAs G xs vs) : ∀ (i : Nat) x v, xs[i]? = some x → vs.toArray[i]? = some v → RA G x v := by
  induction h with
  | nil => intro i x v hx; simp at hx
  | cons h r ih =>
    intro i x v hx hv
    cases i with
    | zero => simp at hx hv; subst hx; subst hv; exact h
    | succ i => exact ih i x v (by simpa using hx) (by simpa using hv)
end Go.Proofs.YtlcmnhocicehmaaDoor.Vm

/- The value machine, twenty-third part: literals of bytes that a conversion to their own type marks. Conditions: none. -/
namespace Go.Proofs.YtlcmnhocicehmaaDoor.Vm
open Go Go.RowKit
set_option linter.unusedVariables false
set_option linter.unusedSimpArgs false
section
variable {P : Program} {g : Gb} {s : St}
end
section
variable {E : Env} {n : Nat} {tm : List (Nat × AV)} {bx : List (Nat × Box)} {ops : Array Oper} {l : List Oper} {Θ : St → Prop} {d1 d2 : Tmp}
end
end Go.Proofs.YtlcmnhocicehmaaDoor.Vm

/- The value machine, twenty-fourth part: slices cut with their room. Conditions: none. -/
namespace Go.Proofs.YtlcmnhocicehmaaDoor.Vm
open Go Go.RowKit
set_option linter.unusedVariables false
set_option linter.unusedSimpArgs false
section
variable {P : Program} {g : Gb} {s : St}
end
section
variable {E : Env} {n : Nat} {tm : List (Nat × AV)} {bx : List (Nat × Box)} {ops : Array Oper} {l : List Oper} {Θ : St → Prop} {d : Tmp} {ty : TypeId} {pos : String} {after : Array Edge}
end
end Go.Proofs.YtlcmnhocicehmaaDoor.Vm

/- The value machine, twenty-sixth part: boxes that are lent to a callee; closures. Conditions: none. -/
namespace Go.Proofs.YtlcmnhocicehmaaDoor.Vm
open Go Go.RowKit
set_option linter.unusedVariables false
set_option linter.unusedSimpArgs false
/-- A function's contract where boxes are lent to it: it may write them and hand them back. -/
def FnLOk (P : Program) (g : Gb) (f : FuncId) (args : List AV) (bi : List (Nat × Box)) (r : AV) (bo : List (Nat × Box)) : Prop :=
  ∀ (w : World) (vals : Array Value) (G : Gh) (cx : Cx), cx.P = P → cx.g = g → vals.size = args.length → SR cx ⟨vals.size, params 0 args, bi⟩ ⟨vals, []⟩ w G →
    Calls P f vals w fun e w' => ∃ v G', e = .returned v ∧ SR cx ⟨1, [(0, r)], bo⟩ ⟨#[v], []⟩ w' G'
section
variable {P : Program} {g : Gb} {s s1 s' : St} {cx : Cx} {a : Act} {w : World} {G : Gh}
theorem FnLOk.mk {f : FuncId} {fn : Func} {c : Code} {args : List AV} {bi : List (Nat × Box)} {x : Ex} {ys : List AV} {r : AV} {bo : List (Nat × Box)} (hf : P.funcs[f]? = some fn) (hc : fn.body = some c) (hn : Nat.ble args.length fn.ntmps = true)
    (h : Runs P g c ⟨fn.ntmps, params 0 args, bi⟩ x s1) (hx : x = .normal ∨ x = .ret) (hy : ress s1 fn.results.toList = some ys) (ht : resTys P s1 fn.results.toList) (hr : oneOf ys = r)
    (hle : SLe ⟨1, [(0, r)], s1.bx⟩ ⟨1, [(0, r)], bo⟩) : FnLOk P g f args bi r bo := by
  intro w vals G cx hP hg hsz hs
  subst hP
  refine calls_of_wp hf hc ?_
  have hn := Nat.le_of_ble_eq_true hn
  have h0 : SR cx ⟨fn.ntmps, params 0 args, bi⟩ { tmps := vals ++ Array.replicate (fn.ntmps - vals.size) undef, defers := [] } w G := by
    refine ⟨fun t => ?_, by simp; omega, rfl, hs.dat, hs.bx, hs.gb, hs.gl, hs.inj, hs.bel, hs.low, hs.glo, hs.bas⟩
    have h1 := hs.tm t
    by_cases c : t < vals.size
    · have hv : (vals ++ Array.replicate (fn.ntmps - vals.size) undef).getD t undef = vals.getD t undef := by
        rw [Array.getD_eq_getD_getElem?, Array.getD_eq_getD_getElem?, Array.getElem?_append_left c]
      rw [hv]
      exact h1
    · have : St.get ⟨fn.ntmps, params 0 args, bi⟩ t = .any := by
        unfold St.get
        rw [look_params, if_pos (Nat.zero_le _), Nat.sub_zero, List.getElem?_eq_none (by omega)]
        rfl
      rw [this]
      exact .any _
  refine Code.wp_mono ?_ (h cx _ w G rfl hg h0)
  rintro e a' w' ⟨he, G', hs⟩
  obtain ⟨v, e1, e2⟩ := run_results hs hy ht
  rw [hr] at e2
  have hs1 : SR cx ⟨1, [(0, r)], s1.bx⟩ ⟨#[v], []⟩ w' G' :=
    ⟨fun t => by
      cases t with
      | zero => exact e2
      | succ t => exact .any _, rfl, rfl, hs.dat, hs.bx, hs.gb, hs.gl, hs.inj, hs.bel, hs.low, hs.glo, hs.bas⟩
  obtain ⟨G2, hs2⟩ := hle _ _ _ _ hs1
  rcases hx with rfl | rfl <;> cases e <;> simp only [Ex.is] at he
  · exact ⟨hs.df, v, e1, v, G2, rfl, hs2⟩
  · exact ⟨hs.df, v, e1, v, G2, rfl, hs2⟩
theorem FnLOk.of {f : FuncId} {fn : Func} {c : Code} {args : List AV} {bi : List (Nat × Box)} {r : AV} {bo : List (Nat × Box)} (hf : P.funcs[f]? = some fn) (hc : fn.body = some c) (hn : Nat.ble args.length fn.ntmps = true)
    (h : Run P g c ⟨fn.ntmps, params 0 args, bi⟩ (Ends P fn r bo)) : FnLOk P g f args bi r bo := by
  obtain ⟨x, s1, h1, h2, ys, h3, h4, h5⟩ := h
  have h6 : FnLOk P g f args bi (oneOf ys) s1.bx := FnLOk.mk hf hc hn h1 h2 h3 h4 rfl (SLe.refl _)
  intro w vals G cx hP hg hsz hs
  refine (h6 w vals G cx hP hg hsz hs).mono ?_
  rintro e w' ⟨v, G', he, hs'⟩
  obtain ⟨G2, hs2⟩ := h5 _ _ _ _ hs'
  exact ⟨v, G2, he, hs2⟩
theorem FnLOk.to {f : FuncId} {args : List AV} {bi : List (Nat × Box)} {r r' : AV} {bo bo' : List (Nat × Box)} (h : FnLOk P g f args bi r bo) (hle : SLe ⟨1, [(0, r)], bo⟩ ⟨1, [(0, r')], bo'⟩) : FnLOk P g f args bi r' bo' := by
  intro w vals G cx hP hg hsz hs
  refine (h w vals G cx hP hg hsz hs).mono ?_
  rintro e w' ⟨v, G', he, hs'⟩
  obtain ⟨G2, hs2⟩ := hle _ _ _ _ hs'
  exact ⟨v, G2, he, hs2⟩
theorem inN_mem : ∀ {l : List Nat} {b : Nat}, inN l b = true → b ∈ l
  | a :: l, b, h => by
    simp only [inN, Bool.or_eq_true] at h
    rcases h with h | h
    · exact Nat.eq_of_beq_eq_true h ▸ List.mem_cons_self
    · exact List.mem_cons_of_mem _ (inN_mem h)
def isVar : Option Box → Bool
  | some (.var _) => true
  | _ => false
theorem isVar_ok {o : Option Box} (h : isVar o = true) : ∃ cs, o = some (.var cs) := by
  cases o with
  | none => cases h
  | some B => cases B with
    | var cs => exact ⟨cs, rfl⟩
    | lst e sz xs => cases h
    | iter s0 pos => cases h
/-- What is lent by number are variables. -/
def lnVars (bi : List (Nat × Box)) : List Nat → Bool
  | [] => true
  | b :: l => isVar (look bi b) && lnVars bi l
theorem lnVars_ok {bi : List (Nat × Box)} : ∀ {l : List Nat}, lnVars bi l = true → ∀ b, inN l b = true → ∃ cs, look bi b = some (.var cs)
  | c :: l, h, b, hb => by
    simp only [lnVars, Bool.and_eq_true] at h
    simp only [inN, Bool.or_eq_true] at hb
    rcases hb with hb | hb
    · rw [← Nat.eq_of_beq_eq_true hb]; exact isVar_ok h.1
    · exact lnVars_ok h.2 b hb
/-- Boxes that the callee hands back under the number they were lent by. -/
def klOk (ln : List Nat) (bo : List (Nat × Box)) : List (Nat × Box) → Bool
  | [] => true
  | (b, _) :: l => inN ln b && isVar (look bo b) && klOk ln bo l
theorem klOk_ok {ln : List Nat} {bo : List (Nat × Box)} : ∀ {l : List (Nat × Box)}, klOk ln bo l = true → ∀ b, has l b = true → inN ln b = true ∧ ∃ cs, look bo b = some (.var cs)
  | [], _, b, h => by simp [has, look] at h
  | (c, C) :: l, h, b, hb => by
    simp only [klOk, Bool.and_eq_true] at h
    unfold has at hb
    rw [look_cons] at hb
    by_cases e : c = b
    · subst e; exact ⟨h.1.1, isVar_ok h.1.2⟩
    · rw [if_neg e] at hb; exact klOk_ok h.2 b hb
def klOf (ln : List Nat) : List (Nat × Box) → List (Nat × Box)
  | [] => []
  | (b, .var cs) :: l => bif inN ln b then (b, .var []) :: klOf ln l else klOf ln l
  | (_, .lst _ _ _) :: l => klOf ln l
  | (_, .iter _ _) :: l => klOf ln l
/-- Boxes with no number in common. -/
def disj (bx : List (Nat × Box)) : List (Nat × Box) → Bool
  | [] => true
  | (b, _) :: l => !has bx b && disj bx l
theorem disj_ok {bx : List (Nat × Box)} : ∀ {l : List (Nat × Box)}, disj bx l = true → ∀ b, has l b = true → has bx b = false
  | [], _, b, h => by simp [has, look] at h
  | (c, C) :: l, h, b, hb => by
    simp only [disj, Bool.and_eq_true, Bool.not_eq_true'] at h
    unfold has at hb
    rw [look_cons] at hb
    by_cases e : c = b
    · subst e; exact h.1
    · rw [if_neg e] at hb; exact disj_ok h.2 b hb
def lnNew (ln gln : List Nat) : List (Nat × Box) → Bool
  | [] => true
  | (b, _) :: l => (inN ln b || !inN gln b) && lnNew ln gln l
theorem lnNew_ok {ln gln : List Nat} : ∀ {l : List (Nat × Box)}, lnNew ln gln l = true → ∀ b, has l b = true → inN ln b = true ∨ inN gln b = false
  | [], _, b, h => by simp [has, look] at h
  | (c, C) :: l, h, b, hb => by
    simp only [lnNew, Bool.and_eq_true, Bool.or_eq_true, Bool.not_eq_true'] at h
    unfold has at hb
    rw [look_cons] at hb
    by_cases e : c = b
    · subst e; exact h.1
    · rw [if_neg e] at hb; exact lnNew_ok h.2 b hb
theorem has_of {bx : List (Nat × Box)} {b : Nat} {B : Box} (h : look bx b = some B) : has bx b = true := by simp [has, h]
theorem of_has {bx : List (Nat × Box)} {b : Nat} (h : has bx b = true) : ∃ B, look bx b = some B := Option.isSome_iff_exists.1 h
theorem no_has {bx : List (Nat × Box)} {b : Nat} (h : has bx b = false) : look bx b = none := by
  cases hl : look bx b with
  | none => rfl
  | some B => rw [has_of hl] at h; cases h
/-- A call to which boxes are lent. -/
theorem OpOk.lend {o : Oper} {d : Tmp} {f : FuncId} {args : List AV} {bi : List (Nat × Box)} {r : AV} {bo bx' kb : List (Nat × Box)} {tm' : List (Nat × AV)} {ln : List Nat} (ho : o.dst = some d)
    (hc : FnLOk P ⟨g.fn, ln⟩ f args bi r bo) (hb : ∃ fn, P.funcs[f]? = some fn)
    (hrun : ∀ (cx : Cx) (a : Act) (w : World) (G : Gh), cx.P = P → cx.g = g → SR cx s a w G → ∃ vals : Array Value, (execOp a.eval o).run P w = .ok (.enter f vals) w ∧ vals.size = args.length ∧ ∀ (i : Nat) x v, args[i]? = some x → vals[i]? = some v → RA G x v)
    (hcl : ∀ x ∈ args, men3 bi x = true) (hbi : BxIn s.bx bi) (hbc : mbx bi bi = true) (hln : lnVars bi ln = true) (hbx : BxIn s.bx bx') (hd1 : disj bi bx' = true) (hd2 : disj bx' bo = true) (hnw : lnNew ln g.ln bo = true) (hkb : klOk ln bo kb = true)
    (htm : TmIn s.tm tm') (hm : mtm (bx' ++ kb) tm' = true) (hmb : mbx (bx' ++ kb) bx' = true) (hd : d < s.n) :
    OpOk P g o s ⟨s.n, (d, r) :: tm', bo ++ bx'⟩ := by
  intro cx a w G hP hg hs K Q hK
  obtain ⟨vals, hex, hsz, hvals⟩ := hrun cx a w G hP hg hs
  unfold Oper.wp
  rw [hex]
  subst hP
  subst hg
  have hbil : ∀ b B, look bi b = some B → look s.bx b = some B := fun b B h => by
    rcases hbi.get b with e | e
    · rw [e] at h; cases h
    · rw [← e]; exact h
  have hbxl : ∀ b B, look bx' b = some B → look s.bx b = some B := fun b B h => by
    rcases hbx.get b with e | e
    · rw [e] at h; cases h
    · rw [← e]; exact h
  have hbxh : ∀ b B, look s.bx b = some B → has bx' b = true → look bx' b = some B := fun b B h hh => by
    obtain ⟨C, hC⟩ := of_has hh
    rw [hbxl b C hC] at h
    obtain rfl := Option.some.inj h
    exact hC
  have hbih : ∀ b B, look s.bx b = some B → has bi b = true → look bi b = some B := fun b B h hh => by
    obtain ⟨C, hC⟩ := of_has hh
    rw [hbil b C hC] at h
    obtain rfl := Option.some.inj h
    exact hC
  obtain ⟨G0, hG0⟩ : ∃ G0 : Gh, G0 = ⟨G.dat, fun b => if has bi b = true then G.blk b else none, fun b => if has bi b = true then G.ls b else none⟩ := ⟨_, rfl⟩
  have hown0 : ∀ b k, G0.own b = some k → has bi b = true ∧ G.own b = some k := fun b k hk => by
    subst hG0
    unfold Gh.own at hk ⊢
    by_cases c : has bi b = true
    · exact ⟨c, by simpa [c] using hk⟩
    · simp [c] at hk
  have hown0' : ∀ b k, has bi b = true → G.own b = some k → G0.own b = some k := fun b k hD hk => by
    subst hG0
    unfold Gh.own at hk ⊢
    simpa [hD] using hk
  have hagree0 : ∀ {x : AV} {v : Value}, RA G x v → Mentions (has bi) x → RA G0 x v := fun hx hm =>
    hx.agree (G' := G0) (D := has bi) (fun _ _ _ h => by subst hG0; exact h) (fun b k hD hk => by subst hG0; simp [hD, hk]) (fun b x hD hk => by subst hG0; simp [hD, hk]) hm
  obtain ⟨cx', hcx⟩ : ∃ cx' : Cx, cx' = ⟨cx.P, w.heap.size, w, G.dat, ⟨cx.g.fn, ln⟩, fun b => if inN ln b = true then G0.blk b else none, fun k => ∃ b, G0.own b = some k⟩ := ⟨_, rfl⟩
  have hmay : ∀ k, cx'.may k → ∃ b, has bi b = true ∧ G.own b = some k := fun k hk => by
    subst hcx
    obtain ⟨b, hb⟩ := hk
    exact ⟨b, hown0 b k hb⟩
  have hmay' : ∀ b k, has bi b = true → G.own b = some k → cx'.may k := fun b k hD hk => by
    subst hcx
    exact ⟨b, hown0' b k hD hk⟩
  have hlend : ∀ b, inN ln b = true → cx'.lend b = G.blk b := fun b hb => by
    obtain ⟨cs, h1⟩ := lnVars_ok hln b hb
    subst hcx
    subst hG0
    simp [hb, has_of h1]
  have hs0 : SR cx' ⟨vals.size, params 0 args, bi⟩ ⟨vals, []⟩ w G0 := by
    refine ⟨fun t => ?_, rfl, rfl, fun b o v h => hs.dat b o v (by subst hG0; exact h), fun b B hB => ?_, fun b k hk => ?_, fun b x hx => ?_, fun b b' k hk hk' => hs.inj b b' k (hown0 b k hk).2 (hown0 b' k hk').2, by subst hcx; exact BelowM.refl, ⟨fun b o _ _ => by subst hcx; subst hG0; rfl, fun b o v h => by subst hcx; subst hG0; exact h⟩, fun gg cs h => hagree0 (hs.glo gg cs (by subst hcx; exact h)) (.eptr cs), by subst hcx; rfl, fun b k h => ?_⟩
    · unfold St.get
      rw [look_params, if_pos (Nat.zero_le _), Nat.sub_zero]
      cases ha : args[t]? with
      | none => exact .any _
      | some y =>
        have hlt := (List.getElem?_eq_some_iff.1 ha).1
        have hv : vals.getD t undef = vals[t]'(by omega) := by
          rw [Array.getD_eq_getD_getElem?]
          simp [show t < vals.size by omega]
        rw [hv]
        exact hagree0 (hvals t y _ ha (by simp [show t < vals.size by omega])) (men3_ok (hcl y (List.mem_of_getElem? ha)))
    · have hD := has_of hB
      have h1 := hs.bx b B (hbil b B hB)
      have hmB := mbx_look hbc b B hB
      cases B with
      | var cs =>
        obtain ⟨k, ty, vs, e1, e2, e3, e4, e5, e6⟩ := h1
        exact ⟨k, ty, vs, by subst hG0; simp [hD, e1], .inr (hmay' b k hD (hs.own_var e1)), e3, e4, fun i x v hx hv => hagree0 (e5 i x v hx hv) (mens2_ok hmB x (List.mem_of_getElem? hx)), fun o => by subst hG0; exact e6 o⟩
      | lst e sz xs =>
        obtain ⟨hh, us, e1, e2, e3, e4, e5⟩ := h1
        exact ⟨hh, us, by subst hG0; simp [hD, e1], e2, ⟨e3.1, fun k hk => .inr (hmay' b k hD ((hs.own_lst e1).trans hk))⟩, by subst hG0; exact e4, fun k hk o ho => by subst hG0; exact e5 k hk o ho⟩
      | iter s0 pos =>
        obtain ⟨k, e1, e2, e3, e4⟩ := h1
        exact ⟨k, by subst hG0; simp [hD, e1], .inr (hmay' b k hD (hs.own_var e1)), e3, fun o => by subst hG0; exact e4 o⟩
    · have hD : has bi b = true := by
        subst hG0
        by_cases c : has bi b = true
        · exact c
        · simp [c] at hk
      have hk0 : G.blk b = some k := by subst hG0; simpa [hD] using hk
      obtain ⟨⟨cs, h1, hcb⟩, _⟩ := hs.gb b k hk0
      refine ⟨⟨cs, hbih b _ h1 hD, hcb⟩, fun k' hk' => ?_⟩
      have hi : inN ln b = true := by
        subst hcx
        by_cases c : inN ln b = true
        · exact c
        · simp [c] at hk'
      rw [hlend b hi, hk0] at hk'
      exact (Option.some.inj hk').symm
    · have hD : has bi b = true := by
        subst hG0
        by_cases c : has bi b = true
        · exact c
        · simp [c] at hx
      have hx0 : G.ls b = some x := by subst hG0; simpa [hD] using hx
      obtain ⟨e, sz, xs, h1⟩ := hs.gl b x hx0
      exact ⟨e, sz, xs, hbih b _ h1 hD⟩
    · subst hcx
      by_cases c : inN ln b = true
      · exact inN_mem c
      · simp [c] at h
  have hbase : cx.base ≤ w.heap.size := hs.basele
  refine Calls.mono (hc w vals G0 cx' (by subst hcx; rfl) (by subst hcx; rfl) hsz hs0) ?_
  rintro e w' ⟨v, G2, rfl, h2⟩
  have hcb : cx'.base = w.heap.size := by subst hcx; rfl
  have hw0 : cx'.w0 = w := by subst hcx; rfl
  have hd0 : cx'.dat0 = G.dat := by subst hcx; rfl
  have hdle : ∀ b o u, G.dat b o = some u → G2.dat b o = some u := fun b o u hu => h2.low.2 b o u (by rw [hd0]; exact hu)
  have hdat : ∀ b o, b < w.heap.size → ¬ cx'.may b → G2.dat b o = G.dat b o := fun b o hb hm => by
    have := h2.low.1 b o (by rw [hcb]; exact hb) hm
    rw [hd0] at this
    exact this
  have hblock : ∀ k, k < w.heap.size → ¬ cx'.may k → w'.heap[k]? = w.heap[k]? := fun k hk hm => by
    have := h2.bel.block k (by rw [hcb]; exact hk) hm
    rw [hw0] at this
    exact this
  have hnm : ∀ b k, has bx' b = true → G.own b = some k → ¬ cx'.may k := fun b k hD hk hm => by
    obtain ⟨b0, h3, h4⟩ := hmay k hm
    have := hs.inj b b0 k hk h4
    subst this
    rw [disj_ok hd1 b hD] at h3
    cases h3
  have hmine : ∀ k, cx'.mine k → cx.mine k := fun k hk => by
    rcases hk with h | h
    · rw [hcb] at h; exact .inl (by omega)
    · obtain ⟨b, h3, h4⟩ := hmay k h
      exact (hs.own_lt h4).1
  obtain ⟨G', hG⟩ : ∃ G' : Gh, G' = ⟨G2.dat, fun b => if has bo b = true then G2.blk b else if has bx' b = true then G.blk b else none, fun b => if has bo b = true then G2.ls b else if has bx' b = true then G.ls b else none⟩ := ⟨_, rfl⟩
  have hnbo : ∀ b, has bx' b = true → has bo b = false := fun b hb => by
    cases hh : has bo b with
    | false => rfl
    | true => rw [disj_ok hd2 b hh] at hb; cases hb
  have hle2 : G2.Le G' := by
    subst hG
    refine ⟨fun _ _ _ h => h, fun b k hb => ?_, fun b sz xs hh hb => ⟨[], hh, ?_, fun _ => rfl⟩⟩
    · obtain ⟨⟨cs, h1, _⟩, _⟩ := h2.gb b k hb
      simp only [has_of h1, if_true]; exact hb
    · obtain ⟨e, sz', xs', h1⟩ := h2.gl b _ hb
      simp only [has_of h1, if_true, List.append_nil]; exact hb
  have hhas : ∀ b, has (bx' ++ kb) b = true → has bx' b = true ∨ has kb b = true := fun b hb => by
    unfold has at hb
    rw [look_append] at hb
    cases hl : look bx' b with
    | none => rw [hl] at hb; exact .inr hb
    | some B => exact .inl (has_of hl)
  have hagree : ∀ {x : AV} {v : Value}, RA G x v → Mentions (has (bx' ++ kb)) x → RA G' x v := fun hx hm =>
    hx.agree (G' := G') (D := has (bx' ++ kb)) (fun b o u hu => by subst hG; exact hdle b o u hu) (fun b k hD hk => by
      rcases hhas b hD with h | h
      · subst hG; simp [hnbo b h, h, hk]
      · obtain ⟨h3, cs, h4⟩ := klOk_ok hkb b h
        obtain ⟨k2, _, _, h5, _⟩ := h2.bx b _ h4
        have h6 := (h2.gb b k2 h5).2 k (by rw [hlend b h3]; exact hk)
        subst hG
        simp only [has_of h4, if_true]
        rw [h5, h6]) (fun b x hD hk => by
      rcases hhas b hD with h | h
      · subst hG; simp [hnbo b h, h, hk]
      · obtain ⟨h3, cs, h4⟩ := klOk_ok hkb b h
        obtain ⟨cs', h5⟩ := lnVars_ok hln b h3
        obtain ⟨e, sz, xs, h6⟩ := hs.gl b x hk
        rw [hbil b _ h5] at h6
        cases h6) hm
  have hownb : ∀ b, has bo b = true → G'.own b = G2.own b := fun b hb => by subst hG; simp [Gh.own, hb]
  have hownx : ∀ b, has bo b = false → has bx' b = true → G'.own b = G.own b := fun b hb hx => by subst hG; simp [Gh.own, hb, hx]
  have hownn : ∀ b, has bo b = false → has bx' b = false → G'.own b = none := fun b hb hx => by subst hG; simp [Gh.own, hb, hx]
  have hapart : ∀ b b' k, has bx' b' = true → G2.own b = some k → G.own b' = some k → False := fun b b' k hx h3 h4 => by
    rcases (h2.own_lt h3).1 with h | h
    · rw [hcb] at h
      have := (hs.own_lt h4).2
      omega
    · exact hnm b' k hx h4 h
  have h0 : SR cx ⟨s.n, tm', bo ++ bx'⟩ a w' G' := by
    refine ⟨fun t => ?_, hs.sz, hs.df, fun b o u hu => h2.dat b o u (by subst hG; exact hu), fun b B hB => ?_, fun b k hk => ?_, fun b x hx => ?_, fun b b' k hk hk' => ?_, ?_, ⟨fun b o hb hm => ?_, fun b o u hu => by subst hG; exact hdle b o u (hs.low.2 b o u hu)⟩, fun gg cs h => hagree (hs.glo gg cs h) (.eptr cs), hs.bas⟩
    · unfold St.get
      cases hl : look tm' t with
      | none => exact .any _
      | some x =>
        rcases htm.get t with e | e
        · rw [e] at hl; cases hl
        · have : s.get t = x := by unfold St.get; rw [← e, hl]; rfl
          exact hagree (hs.slot this) (men3_ok (mtm_look hm t x hl))
    · rw [look_append] at hB
      cases hl : look bo b with
      | some B0 =>
        rw [hl] at hB
        obtain rfl := Option.some.inj hB
        have h1 := h2.bx b B0 hl
        have hD := has_of hl
        cases B0 with
        | var cs =>
          obtain ⟨k, ty, vs, e1, e2, e3, e4, e5, e6⟩ := h1
          exact ⟨k, ty, vs, hle2.blk b k e1, hmine k e2, e3, e4, fun i x v hx hv => (e5 i x v hx hv).mono hle2, fun o => by subst hG; exact e6 o⟩
        | lst e sz xs =>
          obtain ⟨hh, us, e1, e2, e3, e4, e5⟩ := h1
          exact ⟨hh, us, by subst hG; simp [hD, e1], e2, ⟨e3.1, fun k hk => hmine k (e3.2 k hk)⟩, by subst hG; exact e4, fun k hk o ho => by subst hG; exact e5 k hk o ho⟩
        | iter s0 pos =>
          obtain ⟨k, e1, e2, e3, e4⟩ := h1
          exact ⟨k, hle2.blk b k e1, hmine k e2, e3, fun o => by subst hG; exact e4 o⟩
      | none =>
        rw [hl] at hB
        have hB : look bx' b = some B := hB
        have hD := has_of hB
        have hDo := hnbo b hD
        have h1 := hs.bx b B (hbxl b B hB)
        have hmB := mbx_look hmb b B hB
        cases B with
        | var cs =>
          obtain ⟨k, ty, vs, e1, e2, e3, e4, e5, e6⟩ := h1
          have hk := hs.own_var e1
          have hlt := (hs.own_lt hk).2
          have hn := hnm b k hD hk
          exact ⟨k, ty, vs, by subst hG; simp [hDo, hD, e1], e2, by rw [hblock k hlt hn]; exact e3, e4, fun i x v hx hv => hagree (e5 i x v hx hv) (mens2_ok hmB x (List.mem_of_getElem? hx)), fun o => by subst hG; show G2.dat k o = none; rw [hdat k o hlt hn]; exact e6 o⟩
        | lst e sz xs =>
          obtain ⟨hh, us, e1, e2, e3, e4, e5⟩ := h1
          refine ⟨hh, us, by subst hG; simp [hDo, hD, e1], e2, e3.congr (fun k hk => ?_), by subst hG; exact e4.mono hdle, fun k hk o ho => ?_⟩
          · have h3 := (hs.own_lst e1).trans hk
            exact hblock k (hs.own_lt h3).2 (hnm b k hD h3)
          · have h3 := (hs.own_lst e1).trans hk
            subst hG
            show G2.dat k o = none
            rw [hdat k o (hs.own_lt h3).2 (hnm b k hD h3)]
            exact e5 k hk o ho
        | iter s0 pos =>
          obtain ⟨k, e1, e2, e3, e4⟩ := h1
          have hk := hs.own_var e1
          have hlt := (hs.own_lt hk).2
          have hn := hnm b k hD hk
          exact ⟨k, by subst hG; simp [hDo, hD, e1], e2, by rw [hblock k hlt hn]; exact e3, fun o => by subst hG; show G2.dat k o = none; rw [hdat k o hlt hn]; exact e4 o⟩
    · show (∃ B, look (bo ++ bx') b = some B ∧ B.blk = true) ∧ _
      rw [look_append]
      cases c : has bo b with
      | true =>
        have hk2 : G2.blk b = some k := by subst hG; simpa [c] using hk
        obtain ⟨⟨cs, h1, hcb⟩, h3⟩ := h2.gb b k hk2
        rw [h1]
        refine ⟨⟨cs, rfl, hcb⟩, fun k' hk' => ?_⟩
        have hi : inN ln b = true := by
          rcases lnNew_ok hnw b c with h | h
          · exact h
          · have := inN_ok (hs.bas.2 b k' hk')
            rw [this] at h; cases h
        obtain ⟨cs0, h4⟩ := lnVars_ok hln b hi
        obtain ⟨k0, _, _, h5, _⟩ := hs.bx b _ (hbil b _ h4)
        have h6 := (hs.gb b k0 h5).2 k' hk'
        have h7 := h3 k0 (by rw [hlend b hi]; exact h5)
        omega
      | false =>
        rw [no_has c]
        have hx : has bx' b = true := by
          cases hh : has bx' b with
          | true => rfl
          | false => subst hG; simp [c, hh] at hk
        have hk2 : G.blk b = some k := by subst hG; simpa [c, hx] using hk
        obtain ⟨⟨cs, h1, hcb⟩, h3⟩ := hs.gb b k hk2
        exact ⟨⟨cs, hbxh b _ h1 hx, hcb⟩, h3⟩
    · show ∃ e sz xs, look (bo ++ bx') b = some (.lst e sz xs)
      rw [look_append]
      cases c : has bo b with
      | true =>
        have hk2 : G2.ls b = some x := by subst hG; simpa [c] using hx
        obtain ⟨e, sz, xs, h1⟩ := h2.gl b x hk2
        rw [h1]
        exact ⟨e, sz, xs, rfl⟩
      | false =>
        rw [no_has c]
        have hxx : has bx' b = true := by
          cases hh : has bx' b with
          | true => rfl
          | false => subst hG; simp [c, hh] at hx
        have hk2 : G.ls b = some x := by subst hG; simpa [c, hxx] using hx
        obtain ⟨e, sz, xs, h1⟩ := hs.gl b x hk2
        exact ⟨e, sz, xs, hbxh b _ h1 hxx⟩
    · cases c : has bo b with
      | true =>
        rw [hownb b c] at hk
        cases c' : has bo b' with
        | true => rw [hownb b' c'] at hk'; exact h2.inj b b' k hk hk'
        | false =>
          cases x' : has bx' b' with
          | true => rw [hownx b' c' x'] at hk'; exact (hapart b b' k x' hk hk').elim
          | false => rw [hownn b' c' x'] at hk'; cases hk'
      | false =>
        cases x : has bx' b with
        | false => rw [hownn b c x] at hk; cases hk
        | true =>
          rw [hownx b c x] at hk
          cases c' : has bo b' with
          | true => rw [hownb b' c'] at hk'; exact (hapart b' b k x hk' hk).elim
          | false =>
            cases x' : has bx' b' with
            | true => rw [hownx b' c' x'] at hk'; exact hs.inj b b' k hk hk'
            | false => rw [hownn b' c' x'] at hk'; cases hk'
    · have hb2 := h2.bel
      refine ⟨?_, ?_, ?_, ?_, fun k hk hm => ?_⟩
      · rw [hb2.os, hw0]; exact hs.bel.os
      · rw [hb2.tape, hw0]; exact hs.bel.tape
      · rw [hb2.output, hw0]; exact hs.bel.output
      · have := hb2.size; rw [hw0] at this; exact Nat.le_trans hs.bel.size this
      · refine (hblock k (by omega) fun h => ?_).trans (hs.bel.block k hk hm)
        obtain ⟨b, h3, h4⟩ := hmay k h
        rcases (hs.own_lt h4).1 with h5 | h5
        · omega
        · exact hm h5
    · subst hG
      show G2.dat b o = _
      rw [hdat b o (by omega) (fun h => by
        obtain ⟨b0, h3, h4⟩ := hmay b h
        rcases (hs.own_lt h4).1 with h5 | h5
        · omega
        · exact hm h5)]
      exact hs.low.1 b o hb hm
  have := h0.put (d := d) (x := r) (v := v) hd ((h2.tm 0).mono hle2)
  rw [ho]
  exact hK _ _ G' this
end
end Go.Proofs.YtlcmnhocicehmaaDoor.Vm

/- The value machine, twenty-seventh part: rules for calls to which boxes are lent, for closures. Conditions: none. -/
namespace Go.Proofs.YtlcmnhocicehmaaDoor.Vm
open Go Go.RowKit
set_option linter.unusedVariables false
set_option linter.unusedSimpArgs false
/-- A function that may be called with boxes lent to it, and its contract; the environment tells the numbers that are lent. -/
structure FnL (E : Env) (f : FuncId) (args : List AV) (bi : List (Nat × Box)) (r : AV) (bo : List (Nat × Box)) : Prop where
  ok : FnLOk E.P E.g f args bi r bo
  fn : ∃ fn, E.P.funcs[f]? = some fn ∧ (fn.name == "runtime.NumGoroutine") = false ∧ fn.body.isSome = true
theorem FnL.of {E : Env} {f : FuncId} {fn : Func} {c : Code} {args : List AV} {bi : List (Nat × Box)} {r : AV} {bo : List (Nat × Box)} {tm : List (Nat × AV)} (hf : E.P.funcs[f]? = some fn) (hc : fn.body = some c) (hname : (fn.name == "runtime.NumGoroutine") = false) (hn : Nat.ble args.length fn.ntmps = true) (htm : params 0 args = tm)
    (h : Run E.P E.g c ⟨fn.ntmps, tm, bi⟩ (Ends E.P fn r bo)) : FnL E f args bi r bo :=
  ⟨FnLOk.of hf hc hn (by rw [htm]; exact h), fn, hf, hname, by rw [hc]; rfl⟩
theorem FnL.to {E : Env} {f : FuncId} {args : List AV} {bi : List (Nat × Box)} {r r' : AV} {bo bo' : List (Nat × Box)} (h : FnL E f args bi r bo) (hle : SLe ⟨1, [(0, r)], bo⟩ ⟨1, [(0, r')], bo'⟩) : FnL E f args bi r' bo' := ⟨h.ok.to hle, h.fn⟩
theorem FnC.lent {E : Env} {f : FuncId} {args : List AV} {r : AV} {bs : List (Nat × Box)} (h : FnC E f args r bs) (ln : List Nat) : FnC ⟨E.P, ⟨E.g.fn, ln⟩, E.T, E.L⟩ f args r bs := ⟨h.ok, h.fn⟩
/-- The slots that speak of those boxes alone, each as it is now. -/
def keepM (bs : List (Nat × Box)) : List Nat → List (Nat × AV) → List (Nat × AV)
  | _, [] => []
  | seen, (t, x) :: l => match inN seen t with
    | true => keepM bs seen l
    | false => match men3 bs x with
      | true => (t, x) :: keepM bs (t :: seen) l
      | false => keepM bs (t :: seen) l
theorem inN_cons {l : List Nat} {a b : Nat} : inN (a :: l) b = (Nat.beq a b || inN l b) := rfl
theorem TmIn.of {tm : List (Nat × AV)} : ∀ {l : List (Nat × AV)}, (∀ t x, (t, x) ∈ l → look tm t = some x) → TmIn tm l
  | [], _ => .nil
  | (t, x) :: l, h => .cons (h t x (by simp)) (TmIn.of fun t x hx => h t x (by simp [hx]))
theorem keepM_mem {bs : List (Nat × Box)} : ∀ (l : List (Nat × AV)) (seen : List Nat) (t : Nat) (x : AV), (t, x) ∈ keepM bs seen l → inN seen t = false ∧ look l t = some x ∧ men3 bs x = true
  | [], seen, t, x, h => by simp [keepM] at h
  | (k, y) :: l, seen, t, x, h => by
    simp only [keepM] at h
    cases hk : inN seen k with
    | true =>
      rw [hk] at h
      obtain ⟨h1, h2, h3⟩ := keepM_mem l seen t x h
      have hne : k ≠ t := fun e => by subst e; rw [hk] at h1; cases h1
      exact ⟨h1, by rw [look_cons, if_neg hne]; exact h2, h3⟩
    | false =>
      rw [hk] at h
      have tail : (t, x) ∈ keepM bs (k :: seen) l → inN seen t = false ∧ look ((k, y) :: l) t = some x ∧ men3 bs x = true := fun h => by
        obtain ⟨h1, h2, h3⟩ := keepM_mem l _ t x h
        rw [inN_cons, Bool.or_eq_false_iff] at h1
        have hne : k ≠ t := fun e => by rw [e, Nat.beq_refl] at h1; cases h1.1
        exact ⟨h1.2, by rw [look_cons, if_neg hne]; exact h2, h3⟩
      cases hm : men3 bs y with
      | true =>
        rw [hm] at h
        simp only [List.mem_cons] at h
        rcases h with h | h
        · obtain ⟨rfl, rfl⟩ := Prod.mk.inj h
          exact ⟨hk, by rw [look_cons, if_pos rfl], hm⟩
        · exact tail h
      | false => rw [hm] at h; exact tail h
theorem mtm_of {bs : List (Nat × Box)} : ∀ {l : List (Nat × AV)}, (∀ t x, (t, x) ∈ l → men3 bs x = true) → mtm bs l = true
  | [], _ => rfl
  | (t, x) :: l, h => by
    simp only [mtm, Bool.and_eq_true]
    exact ⟨h t x (by simp), mtm_of fun t x hx => h t x (by simp [hx])⟩
/-- The boxes that are not lent, each as it is now. -/
def dropB (bi : List (Nat × Box)) : List Nat → List (Nat × Box) → List (Nat × Box)
  | _, [] => []
  | seen, (b, B) :: l => match inN seen b || has bi b with
    | true => dropB bi (b :: seen) l
    | false => (b, B) :: dropB bi (b :: seen) l
theorem dropB_mem {bi : List (Nat × Box)} : ∀ (l : List (Nat × Box)) (seen : List Nat) (b : Nat) (B : Box), (b, B) ∈ dropB bi seen l → inN seen b = false ∧ look l b = some B ∧ has bi b = false
  | [], seen, b, B, h => by simp [dropB] at h
  | (k, C) :: l, seen, b, B, h => by
    have tail : (b, B) ∈ dropB bi (k :: seen) l → inN seen b = false ∧ look ((k, C) :: l) b = some B ∧ has bi b = false := fun h => by
      obtain ⟨h1, h2, h3⟩ := dropB_mem l _ b B h
      rw [inN_cons, Bool.or_eq_false_iff] at h1
      have hne : k ≠ b := fun e => by rw [e, Nat.beq_refl] at h1; cases h1.1
      exact ⟨h1.2, by rw [look_cons, if_neg hne]; exact h2, h3⟩
    simp only [dropB] at h
    cases hk : inN seen k || has bi k with
    | true => rw [hk] at h; exact tail h
    | false =>
      rw [hk] at h
      rw [Bool.or_eq_false_iff] at hk
      simp only [List.mem_cons] at h
      rcases h with h | h
      · obtain ⟨rfl, rfl⟩ := Prod.mk.inj h
        exact ⟨hk.1, by rw [look_cons, if_pos rfl], hk.2⟩
      · exact tail h
theorem BxIn.of {bx : List (Nat × Box)} : ∀ {l : List (Nat × Box)}, (∀ b B, (b, B) ∈ l → look bx b = some B) → BxIn bx l
  | [], _ => .nil
  | (b, B) :: l, h => .cons (h b B (by simp)) (BxIn.of fun b B hx => h b B (by simp [hx]))
theorem disj_of {bx : List (Nat × Box)} : ∀ {l : List (Nat × Box)}, (∀ b B, (b, B) ∈ l → has bx b = false) → disj bx l = true
  | [], _ => rfl
  | (b, B) :: l, h => by
    simp only [disj, Bool.and_eq_true, Bool.not_eq_true']
    exact ⟨h b B (by simp), disj_of fun b B hx => h b B (by simp [hx])⟩
/-- A function value is called: what it has captured stands behind the arguments. -/
theorem run_callV {P : Program} {g : Gb} {s : St} {cx : Cx} {a : Act} {w : World} {G : Gh} (hg : cx.g = g) (hs : SR cx s a w G) {d : Option Tmp} {c : Operand} {f : FuncId} {fn : Func} {cs args : List AV} {xs : Array Operand} {ts : Array TypeId} {ty : TypeId} {pos : String} {after : Array Edge} {gd : Option (Nat × Bool)}
    (hy : s.ev g c = .clo f cs) (hf : P.funcs[f]? = some fn) (hname : (fn.name == "runtime.NumGoroutine") = false) (hb : fn.body.isSome = true) (hargs : xs.toList.map (s.ev g) ++ cs = args) :
    ∃ vals : Array Value, (execOp a.eval ⟨d, .call { callee := .value c, args := xs, argTypes := ts }, ty, pos, after, gd⟩).run P w = .ok (.enter f vals) w ∧ vals.size = args.length ∧ ∀ (i : Nat) x v, args[i]? = some x → vals[i]? = some v → RA G x v := by
  have hv : ∃ vs : Array Value, a.eval c = .func (.func f) #[] vs ∧ vs.size = cs.length ∧ ∀ (i : Nat) x v, cs[i]? = some x → vs[i]? = some v → RA G x v := by
    have h := hs.ev hg c
    rw [hy] at h
    generalize a.eval c = v at h
    cases h with
    | clo f cs vs hl h => exact ⟨vs, rfl, hl, h⟩
  obtain ⟨vs, e1, e2, e3⟩ := hv
  have hnb : fn.body ≠ none := fun e => by rw [e] at hb; cases hb
  have hne : fn.name ≠ "runtime.NumGoroutine" := fun e => by simp [e] at hname
  refine ⟨xs.map a.eval ++ vs, ?_, ?_, fun i x v hx hv => ?_⟩
  · simp [execOp, resolve, e1, Deferred.ofValue, invoke, callFunc, program, Sem.run_bind, Sem.run, hf, hne, hnb, Result.andThen]
  · subst hargs; simp [e2]
  · subst hargs
    by_cases c : i < xs.size
    · rw [List.getElem?_append_left (by simpa using c)] at hx
      rw [Array.getElem?_append_left (by simpa using c)] at hv
      rw [Array.getElem?_map, Option.map_eq_some_iff] at hv
      obtain ⟨y, hy', rfl⟩ := hv
      rw [List.getElem?_map, Option.map_eq_some_iff] at hx
      obtain ⟨y', hy2, rfl⟩ := hx
      rw [Array.getElem?_toList, hy'] at hy2
      obtain rfl := Option.some.inj hy2
      exact hs.ev hg y
    · rw [List.getElem?_append_right (by simpa using c)] at hx
      rw [Array.getElem?_append_right (by simpa using c)] at hv
      simp only [List.length_map, Array.length_toList, Array.size_map] at hx hv
      exact e3 _ x v hx hv
section
variable {E : Env} {n : Nat} {tm : List (Nat × AV)} {bx : List (Nat × Box)} {ops : Array Oper} {l : List Oper} {Θ : St → Prop} {d : Tmp} {ty : TypeId} {pos : String} {after : Array Edge}
theorem evsO_eq : ∀ (l : List Operand) (args : List AV), evsO E tm l = some args → l.map (St.ev ⟨n, tm, bx⟩ E.g) = args
  | [], args, h => by obtain rfl := Option.some.inj h; rfl
  | x :: l, args, h => by
    simp only [evsO] at h
    split at h
    · rename_i y ys h1 h2
      obtain rfl := Option.some.inj h
      rw [List.map_cons, evO_ok h1, evsO_eq l _ h2]
    · cases h
/-- A call, by name or of a function value, to which boxes are lent. -/
theorem O.lend {c : Operand} {f : FuncId} {xs : Array Operand} {ts : Array TypeId} {cs as0 args : List AV} {bi bo bx' kb : List (Nat × Box)} {r : AV} {tm' : List (Nat × AV)} {ln : List Nat} (hc : FnL ⟨E.P, ⟨E.g.fn, ln⟩, E.T, E.L⟩ f args bi r bo) (hy : evO E tm c = some (.clo f cs)) (hargs : evsO E tm xs.toList = some as0) (hap : as0 ++ cs = args)
    (hcl : mens2 bi [.agg args] = true ∨ (∀ x ∈ args, men3 bi x = true)) (hbi : BxIn bx bi) (hbc : mbx bi bi = true) (hln : lnVars bi ln = true) (hbx : dropB bi [] bx = bx') (hd2 : disj bx' bo = true) (hnw : lnNew ln E.g.ln bo = true) (hkb : klOf ln bo = kb) (hkb2 : klOk ln bo kb = true)
    (htm : keepM (bx' ++ kb) [] tm = tm') (hmb : mbx (bx' ++ kb) bx' = true) (hd : Nat.blt d n = true) (h : Ops E.P E.g ops l ⟨n, (d, r) :: tm', bo ++ bx'⟩ Θ) :
    Ops E.P E.g ops (⟨some d, .call { callee := .value c, args := xs, argTypes := ts }, ty, pos, after, none⟩ :: l) ⟨n, tm, bx⟩ Θ := by
  obtain ⟨fn, h1, h2, h3⟩ := hc.fn
  subst htm
  subst hbx
  refine Ops.op rfl (OpOk.lend (s := ⟨n, tm, bx⟩) (g := E.g) (ln := ln) rfl hc.ok ⟨fn, h1⟩ (fun cx a w G hP hg hs => ?_) ?_ hbi hbc hln (BxIn.of fun b B hB => (dropB_mem bx [] b B hB).2.1) (disj_of fun b B hB => (dropB_mem bx [] b B hB).2.2) hd2 hnw hkb2 (TmIn.of fun t x hx => (keepM_mem tm [] t x hx).2.1) (mtm_of fun t x hx => (keepM_mem tm [] t x hx).2.2) hmb (Vm.blt hd)) h
  · exact run_callV hg hs (evO_ok hy) h1 h2 h3 (by rw [evsO_eq _ _ hargs]; exact hap)
  · rcases hcl with hcl | hcl
    · have hm : mens1 bi args = true := by simpa [mens2, men2] using hcl
      exact fun x hx => by
        have : ∀ (l : List AV), mens1 bi l = true → ∀ x ∈ l, men1 bi x = true := by
          intro l
          induction l with
          | nil => intro _ x hx; simp at hx
          | cons y l ih =>
            intro h x hx
            simp only [mens1, Bool.and_eq_true] at h
            cases hx with
            | head => exact h.1
            | tail _ hx => exact ih h.2 x hx
        have h1 := this args hm x hx
        cases x <;> first | exact h1 | cases h1
    · exact hcl
/-- A closure. -/
theorem OpOk.makeFunc {P : Program} {g : Gb} {s : St} {dst : Option Tmp} {f : FuncId} {cap : Array Operand} {gd : Option (Nat × Bool)} {cs : List AV} (hcs : cap.toList.map (s.ev g) = cs) (hd : ∀ t, dst = some t → t < s.n) :
    OpOk P g ⟨dst, .makeFunc (.func f) #[] cap, ty, pos, after, gd⟩ s (s.putO dst (.clo f cs)) := by
  refine OpOk.val (o := ⟨dst, .makeFunc (.func f) #[] cap, ty, pos, after, gd⟩) hd (fun cx a w G hP hg hs => ?_)
  refine ⟨.func (.func f) #[] (cap.map a.eval), ?_, .clo f cs _ (by subst hcs; simp) fun i x v hx hv => ?_⟩
  · simp [execOp, Instr.makeFunc, Sem.run_bind, Sem.run, Result.andThen]
  · subst hcs
    rw [Array.getElem?_map, Option.map_eq_some_iff] at hv
    obtain ⟨y, hy, rfl⟩ := hv
    rw [List.getElem?_map, Option.map_eq_some_iff] at hx
    obtain ⟨y', hy2, rfl⟩ := hx
    rw [Array.getElem?_toList, hy] at hy2
    obtain rfl := Option.some.inj hy2
    exact hs.ev hg y
theorem O.makeFunc {f : FuncId} {cap : Array Operand} {cs : List AV} (hcs : evsO E tm cap.toList = some cs) (hd : Nat.blt d n = true) (h : Ops E.P E.g ops l ⟨n, (d, .clo f cs) :: tm, bx⟩ Θ) :
    Ops E.P E.g ops (⟨some d, .makeFunc (.func f) #[] cap, ty, pos, after, none⟩ :: l) ⟨n, tm, bx⟩ Θ :=
  Ops.op rfl (OpOk.makeFunc (s := ⟨n, tm, bx⟩) (evsO_eq _ _ hcs) (fun t ht => by obtain rfl := Option.some.inj ht; exact Vm.blt hd)) h
/-- A pointer that is asked for is there. -/
theorem OpOk.nilCheck {P : Program} {g : Gb} {s : St} {dst : Option Tmp} {y : Operand} {gd : Option (Nat × Bool)} {b o : Nat} (hy : s.ev g y = .ptr b o) (hd : ∀ t, dst = some t → t < s.n) :
    OpOk P g ⟨dst, .nilCheck y, ty, pos, after, gd⟩ s (s.putO dst (.ptr b o)) := by
  refine OpOk.val (o := ⟨dst, .nilCheck y, ty, pos, after, gd⟩) hd (fun cx a w G hP hg hs => ?_)
  have h1 := hs.ev hg y
  rw [hy] at h1
  have h2 : ∃ k, a.eval y = .pointer (some ⟨k, o, none⟩) := by
    generalize a.eval y = v at h1
    cases h1 with
    | ptr _ _ k hk => exact ⟨k, rfl⟩
  obtain ⟨k, h2⟩ := h2
  refine ⟨a.eval y, ?_, h1⟩
  rw [h2]
  show (match a.eval y with
    | .pointer none | .nilIface | .nilFunc => _
    | .func (.method name) first captured => _
    | x => pure (Next.value x) : Sem Next).run P w = _
  rw [h2]
  rfl
theorem O.nilCheck {y : Operand} {b o : Nat} (hy : evO E tm y = some (.ptr b o)) (hd : Nat.blt d n = true) (h : Ops E.P E.g ops l ⟨n, (d, .ptr b o) :: tm, bx⟩ Θ) :
    Ops E.P E.g ops (⟨some d, .nilCheck y, ty, pos, after, none⟩ :: l) ⟨n, tm, bx⟩ Θ :=
  Ops.op rfl (OpOk.nilCheck (s := ⟨n, tm, bx⟩) (evO_ok hy) (fun t ht => by obtain rfl := Option.some.inj ht; exact Vm.blt hd)) h
/-- Two lists of boxes that agree where the first one has one. -/
def BLe (rb bx : List (Nat × Box)) : Prop := ∀ b B, look rb b = some B → look bx b = some B
theorem pub1O_le {rb bx : List (Nat × Box)} (hb : BLe rb bx) {x : AV} {p : PV} (h : pub1O rb x = some p) : pub1O bx x = some p := by
  cases x with
  | pv q => exact h
  | gl b m =>
    simp only [pub1O] at h ⊢
    split at h
    · rename_i e sz xs hl; rw [hb b _ hl]; exact h
    · cases h
  | _ => cases h
theorem pubsO_le {rb bx : List (Nat × Box)} (hb : BLe rb bx) : ∀ {xs : List AV} {ps : List PV}, pubsO rb xs = some ps → pubsO bx xs = some ps
  | [], ps, h => h
  | x :: xs, ps, h => by
    simp only [pubsO] at h ⊢
    split at h
    · rename_i p ps' h1 h2
      rw [pub1O_le hb h1, pubsO_le hb h2]; exact h
    · cases h
theorem pubO_le {rb bx : List (Nat × Box)} (hb : BLe rb bx) {x : AV} {p : PV} (h : pubO rb x = some p) : pubO bx x = some p := by
  cases x with
  | pv q => exact h
  | agg cs =>
    simp only [pubO] at h ⊢
    split at h
    · rename_i ps hps; rw [pubsO_le hb hps]; exact h
    · cases h
  | gl b m =>
    simp only [pubO] at h ⊢
    split at h
    · rename_i e sz xs hl; rw [hb b _ hl]; exact h
    · cases h
  | _ => cases h
theorem rts_tail2 {x : Operand} {xs : List Operand} {p : Nat × AV} (hp : p ∈ rtsOf E tm xs) : p ∈ rtsOf E tm (x :: xs) := by
  cases x with
  | tmp t =>
    simp only [rtsOf]
    split
    · exact List.mem_cons_of_mem _ hp
    · exact hp
  | const v => exact hp
  | global k => exact hp
  | func f => exact hp
theorem elemsO_le {sz : Nat} {s : St} {rb : List (Nat × Box)} (hb : BLe rb s.bx) : ∀ (ps : List (Nat × Operand)) (k : Nat) (r : List PV), elemsO E rb tm sz k ps = some r → (∀ p ∈ rtsOf E tm (ps.map (·.2)), look s.tm p.1 = some p.2) → elemsO E s.bx s.tm sz k ps = some r
  | [], k, r, h, _ => h
  | (i, x) :: rest, k, r, h, hs => by
    simp only [elemsO] at h ⊢
    split at h
    · rename_i p ps' h1 h2
      rw [Option.bind_eq_some_iff] at h1
      obtain ⟨y, hy, h1⟩ := h1
      have e1 : evO E s.tm x = some y := by
        cases x with
        | tmp t => exact hs (t, y) (by simp only [List.map_cons, rtsOf]; rw [show look tm t = some y from hy]; simp)
        | const v => exact hy
        | global k => exact hy
        | func f => exact hy
      have e2 := elemsO_le hb rest (k + 1) ps' h2 (fun p hp => hs p (by simp only [List.map_cons]; exact rts_tail2 hp))
      rw [e1, e2]
      simp only [Option.bind_some, pubO_le hb h1]
      exact h
    · cases h
theorem look_in {α : Type} : ∀ {l : List (Nat × α)} {i : Nat} {x : α}, look l i = some x → (i, x) ∈ l
  | (k, y) :: l, i, x, h => by
    rw [look_cons] at h
    by_cases c : k = i
    · rw [if_pos c] at h
      obtain rfl := Option.some.inj h
      subst c
      exact List.mem_cons_self
    · rw [if_neg c] at h
      exact List.mem_cons_of_mem _ (look_in h)
/-- A literal slice, in a region whose order is drawn; its elements may be slices that those boxes hold. -/
theorem D.lit {Θ : List Rec → St → Prop} {t e : TypeId} {len : Nat} {parts : Array (Nat × Operand)} {i ie : TI} {xs : List PV} (hE : E.Ok) (b : Nat) (rb : List (Nat × Box)) (ht : E.T t = some i) (hk : i.desc = .slc e) (he : E.T e = some ie) (hz : Nat.beq ie.zero.length ie.size = true) (hpos : Nat.blt 0 ie.size = true) (hel : elemsO E rb tm ie.size 0 parts.toList = some xs) (hrb : BxIn bx rb) (hlen : Nat.beq len parts.toList.length = true) (hlen2 : Nat.beq len xs.length = true)
    (hbig : Nat.ble (len * ie.size) 16777216 = true) (hb : look bx b = none) (hd : Nat.blt d n = true) (h : Dr E.P E.g ops l ⟨n, (d, .gl b xs.length) :: tm, (b, .lst e ie.size xs) :: bx⟩ (fun rs => Θ (⟨rtsOf E tm (parts.toList.map (·.2)), rb, [b], some d, .gl b xs.length, [(b, .lst e ie.size xs)]⟩ :: rs))) :
    Dr E.P E.g ops (⟨some d, .buildSlice t len parts, ty, pos, after, none⟩ :: l) ⟨n, tm, bx⟩ Θ :=
  Dr.cons (r := ⟨rtsOf E tm (parts.toList.map fun (x : Nat × Operand) => x.2), rb, [b], some d, .gl b xs.length, [(b, .lst e ie.size xs)]⟩) (.plain rfl rfl fun s hs =>
      OpOk.buildSlice (s := s) b (hE.t _ _ ht) hk (hE.t _ _ he) hz hpos (elemsO_ok (n := s.n) (tm := s.tm) (bx := s.bx) _ _ _ (elemsO_le (fun c B hc => hs.b (c, B) (look_in hc)) _ _ _ hel hs.t)) hlen hlen2 hbig (hs.n b (by simp)) (hs.d d rfl))
    (met_mk (rts_now _) (fun p hp => by
      have : ∀ (l : List (Nat × Box)), BxIn bx l → ∀ p ∈ l, look bx p.1 = some p.2 := by
        intro l hl
        induction hl with
        | nil => intro p hp; simp at hp
        | cons h r ih =>
          intro p hp
          cases hp with
          | head => exact h
          | tail _ hp => exact ih p hp
      exact this rb hrb p hp) (fun c hc => by simp at hc; subst hc; exact hb) hd) h
/-- A slice grown, in a region whose order is drawn. -/
theorem D.append {Θ : List Rec → St → Prop} {t e : TypeId} {y x : Operand} {i ie : TI} {b m sz : Nat} {xs zs : List PV} {z : AV} {q : Nat × List PV} (hE : E.Ok) (ht : E.T t = some i) (hk : i.desc = .slc e) (he : E.T e = some ie) (hy : evO E tm y = some (.gl b m)) (hb : look bx b = some (.lst e sz xs)) (hm : m = xs.length) (hx : evO E tm x = some z) (hl : lstO bx z = some q) (hn : newest bx z) (hsz : q.1 = sz) (hsz2 : sz = ie.size)
    (hz : Nat.beq ie.zero.length ie.size = true) (hpos : Nat.blt 0 ie.size = true) (hb1 : (xs.length + q.2.length) * ie.bytes ≤ 140737488355328) (hb2 : xs.length + q.2.length ≤ maxLen) (hzs : xs ++ q.2 = zs) (hd : Nat.blt d n = true)
    (h : Dr E.P E.g ops l ⟨n, (d, .gl b zs.length) :: tm, (b, .lst e sz zs) :: bx⟩ (fun rs => Θ (⟨rtOf y (.gl b m) ++ rtOf x z, (b, .lst e sz xs) :: rbOf bx z, [], some d, .gl b zs.length, [(b, .lst e sz zs)]⟩ :: rs))) :
    Dr E.P E.g ops (⟨some d, .call { callee := .builtin .append, args := #[y, x], argTypes := #[t, t] }, ty, pos, after, none⟩ :: l) ⟨n, tm, bx⟩ Θ := by
  subst hsz
  refine Dr.cons (r := ⟨rtOf y (.gl b m) ++ rtOf x z, (b, .lst e q.1 xs) :: rbOf bx z, [], some d, .gl b zs.length, [(b, .lst e q.1 zs)]⟩) (.plain rfl rfl fun s hs => ?_) (met_mk (fun w hw => ?_) (fun p hp => ?_) none_new hd) h
  · obtain ⟨l1, l2⟩ := rb_lst hl hn (s := s) (fun p hp => hs.b p (List.mem_cons_of_mem _ hp))
    exact OpOk.append (s := s) (hE.t _ _ ht) hk (hE.t _ _ he) (evO_ok (n := s.n) (bx := s.bx) (rt_ev hy (fun p hp => hs.t p (mem_l hp)))) (hs.b (b, .lst e q.1 xs) (by simp)) hm (evO_ok (n := s.n) (bx := s.bx) (rt_ev hx (fun p hp => hs.t p (mem_r hp)))) (lstO_ok (n := s.n) (tm := s.tm) l1 l2) hsz2 (Nat.eq_of_beq_eq_true hz) (Nat.le_of_ble_eq_true hpos) hb1 hb2 hzs (hs.d d rfl)
  · rcases List.mem_append.1 hw with hw | hw
    · exact rt_now hy w hw
    · exact rt_now hx w hw
  · cases hp with
    | head => exact hb
    | tail _ hp => exact rb_now p hp
end
section
variable {n : Nat} {tm : List (Nat × AV)} {bx : List (Nat × Box)}
end
/-- A text's range begins. -/
theorem SR.newIter {P : Program} {g : Gb} {s : St} {cx : Cx} {a : Act} {w : World} {G : Gh} (h : SR cx s a w G) {b : Nat} (hb : look s.bx b = none) (hnl : cx.lend b = none) (t : ByteArray) (pos : Nat) :
    ∃ G', G.Le G' ∧ G'.blk b = some w.heap.size ∧ SR cx (s.box b (.iter t pos)) a (w.alloc (.stringIter t pos)) G' := by
  have hbn := h.blk_none hb
  have hln := h.ls_none hb
  have hle : G.Le { G with blk := fun i => if i = b then some w.heap.size else G.blk i } :=
    ⟨fun _ _ _ h => h, fun i k hi => by
      by_cases e : i = b
      · subst e; rw [hbn] at hi; cases hi
      · simpa [e] using hi, fun i sz xs hh hi => ⟨[], hh, by simpa using hi, fun _ => rfl⟩⟩
  have hown : ∀ i k, Gh.own { G with blk := fun i => if i = b then some w.heap.size else G.blk i } i = some k → (i = b ∧ k = w.heap.size) ∨ (i ≠ b ∧ G.own i = some k) := by
    intro i k hi
    by_cases e : i = b
    · subst e
      simp [Gh.own] at hi
      exact .inl ⟨rfl, hi.symm⟩
    · simp [Gh.own, e] at hi
      exact .inr ⟨e, by simpa [Gh.own] using hi⟩
  have hold : ∀ k, k < w.heap.size → (w.alloc (.stringIter t pos)).heap[k]? = w.heap[k]? := fun k hk => Below.heap_alloc w _ k hk
  refine ⟨_, hle, by simp, ⟨fun t => (h.tm t).mono hle, h.sz, h.df, fun b' o v hv' => ?_, fun i B hi => ?_, fun i k hi => ?_, fun i x hi => ?_, fun i i' k hi hi' => ?_, h.bel.alloc h.basele _, h.low, fun gg cs' hg => (h.glo gg cs' hg).mono hle, h.bas⟩⟩
  · rw [← h.dat b' o v hv']
    exact World.cell?_of_block (w := w) (hold b' (h.dat_lt hv'))
  · simp only [St.box, look_cons] at hi
    by_cases e : b = i
    · subst e
      rw [if_pos rfl] at hi
      obtain rfl := Option.some.inj hi
      refine ⟨w.heap.size, by simp, .inl h.basele, heap_alloc_new w _, fun o => ?_⟩
      cases hd : G.dat w.heap.size o with
      | none => rfl
      | some v => exact absurd (h.dat_lt hd) (Nat.lt_irrefl _)
    · rw [if_neg e] at hi
      refine (h.bx i B hi).keep hle rfl (fun k hk => ⟨hold k (h.own_lt (h.own_var hk)).2, fun o ho => ho⟩) (fun x k hx hk => ⟨hold k (h.own_lt ((h.own_lst hx).trans hk)).2, fun o ho => ho⟩)
  · simp only [St.box, look_cons]
    by_cases e : b = i
    · subst e; exact ⟨⟨.iter t pos, by simp, rfl⟩, fun k' hk' => by rw [hnl] at hk'; cases hk'⟩
    · have : i ≠ b := fun x => e x.symm
      simp only [this, if_false] at hi
      rw [if_neg e]
      exact h.gb i k hi
  · simp only [St.box, look_cons]
    by_cases e : b = i
    · subst e; rw [hln] at hi; cases hi
    · rw [if_neg e]; exact h.gl i x hi
  · rcases hown i k hi with ⟨e1, e2⟩ | ⟨e1, e2⟩ <;> rcases hown i' k hi' with ⟨e3, e4⟩ | ⟨e3, e4⟩
    · rw [e1, e3]
    · have := (h.own_lt e4).2; omega
    · have := (h.own_lt e2).2; omega
    · exact h.inj i i' k e2 e4
theorem SR.setIter {P : Program} {g : Gb} {s : St} {cx : Cx} {a : Act} {w : World} {G : Gh} (h : SR cx s a w G) {b k : Nat} {t : ByteArray} {pos pos' : Nat} (hb : look s.bx b = some (.iter t pos)) (hk : G.blk b = some k) :
    SR cx (s.box b (.iter t pos')) a { w with heap := w.heap.setIfInBounds k (.stringIter t pos') } G := by
  have hlt := h.own_lt (h.own_var hk)
  have hoth : ∀ j, j ≠ k → ({ w with heap := w.heap.setIfInBounds k (.stringIter t pos') } : World).heap[j]? = w.heap[j]? := fun j hj => by
    simp [Array.getElem?_setIfInBounds, Ne.symm hj]
  obtain ⟨k0, e1, e2, e3, e4⟩ := h.bx b _ hb
  rw [hk] at e1
  obtain rfl := Option.some.inj e1
  refine ⟨h.tm, h.sz, h.df, fun b' o v hv' => ?_, fun i B hi => ?_, fun i k' hi => ?_, fun i x hi => ?_, h.inj, ?_, h.low, h.glo, h.bas⟩
  · rw [← h.dat b' o v hv']
    exact World.cell?_of_block (w := w) (hoth b' (fun e => by subst e; rw [e4 o] at hv'; cases hv'))
  · simp only [St.box, look_cons] at hi
    by_cases e : b = i
    · subst e
      rw [if_pos rfl] at hi
      obtain rfl := Option.some.inj hi
      exact ⟨k, hk, hlt.1, by simp [Array.getElem?_setIfInBounds, hlt.2], e4⟩
    · rw [if_neg e] at hi
      refine (h.bx i B hi).keep (Gh.Le.refl G) rfl (fun k' hk' => ⟨hoth k' (fun e2 => e ?_), fun o ho => ho⟩) (fun x k' hx hk' => ⟨hoth k' (fun e2 => e ?_), fun o ho => ho⟩)
      · subst e2; exact h.inj b i k' (h.own_var hk) (h.own_var hk')
      · subst e2; exact h.inj b i k' (h.own_var hk) ((h.own_lst hx).trans hk')
  · simp only [St.box, look_cons]
    by_cases e : b = i
    · subst e; exact ⟨⟨.iter t pos', by simp, rfl⟩, (h.gb b k' hi).2⟩
    · rw [if_neg e]; exact h.gb i k' hi
  · simp only [St.box, look_cons]
    by_cases e : b = i
    · subst e
      obtain ⟨e1, sz, xs, h1⟩ := h.gl b x hi
      rw [hb] at h1; cases h1
    · rw [if_neg e]; exact h.gl i x hi
  · exact ⟨h.bel.os, h.bel.tape, h.bel.output, by simp [h.bel.size], fun j hj hm => (hoth j (fun e => by
      subst e
      rcases hlt.1 with h1 | h1
      · exact absurd hj (Nat.not_lt.2 h1)
      · exact hm h1)).trans (h.bel.block j hj hm)⟩
section
variable {E : Env} {n : Nat} {tm : List (Nat × AV)} {bx : List (Nat × Box)} {ops : Array Oper} {l : List Oper} {Θ : St → Prop} {d : Tmp} {ty : TypeId} {pos : String} {after : Array Edge}
theorem OpOk.range {P : Program} {g : Gb} {s : St} {d : Tmp} {t : TypeId} {y : Operand} {gd : Option (Nat × Bool)} {i : TI} {x : ByteArray} (b : Nat) (ht : tiOf P t = some i) (hk : i.desc = .strg) (hy : s.ev g y = .pv (.str x)) (hb : look s.bx b = none) (hn : inN g.ln b = false) (hd : d < s.n) :
    OpOk P g ⟨some d, .range t y, ty, pos, after, gd⟩ s ((s.box b (.iter x 0)).put d (.ptr b 0)) := by
  intro cx a w G hP hg hs K Q hK
  have h1 := hs.ev hg y
  rw [hy] at h1
  have h1 : a.eval y = .string x := h1.str
  obtain ⟨G', hle, hbk, hs'⟩ := SR.newIter (P := P) (g := g) hs hb (hs.notLent hg hn) x 0
  have hu := run_underlying (tiOf_strg ht hk)
  have hrun : (execOp a.eval ⟨some d, .range t y, ty, pos, after, gd⟩).run P w = .ok (.value (.pointer (some ⟨w.heap.size, 0, none⟩))) (w.alloc (.stringIter x 0)) := by
    simp [execOp, h1, Instr.range, Sem.run_bind, hu, Sem.run, newObj, World.alloc, -World.alloc_eq, Result.andThen]
  unfold Oper.wp
  rw [hrun]
  exact hK _ _ G' (hs'.put hd (.ptr b 0 _ hbk))
theorem O.range {t : TypeId} {y : Operand} {i : TI} {x : ByteArray} (hE : E.Ok) (b : Nat) (ht : E.T t = some i) (hk : i.desc = .strg) (hy : evO E tm y = some (.pv (.str x))) (hb : look bx b = none) (hd : Nat.blt d n = true) (h : Ops E.P E.g ops l ⟨n, (d, .ptr b 0) :: tm, (b, .iter x 0) :: bx⟩ Θ) (hln : inN E.g.ln b = false := by rfl) :
    Ops E.P E.g ops (⟨some d, .range t y, ty, pos, after, none⟩ :: l) ⟨n, tm, bx⟩ Θ :=
  Ops.op rfl (OpOk.range (s := ⟨n, tm, bx⟩) b (hE.t _ _ ht) hk (evO_ok hy) hb hln (Vm.blt hd)) h
theorem iter_ptr {cx : Cx} {s : St} {a : Act} {w : World} {G : Gh} (hs : SR cx s a w G) {b : Nat} {x : ByteArray} {p : Nat} (hb : look s.bx b = some (.iter x p)) {v : Value} (hv : RA G (.ptr b 0) v) : ∃ k, v = .pointer (some ⟨k, 0, none⟩) ∧ G.blk b = some k ∧ w.heap[k]? = some (.stringIter x p) := by
  obtain ⟨k, e1, e2, e3, e4⟩ := hs.bx b _ hb
  cases hv with
  | ptr _ _ k' hk' =>
    rw [e1] at hk'
    obtain rfl := Option.some.inj hk'
    exact ⟨k, rfl, e1, e3⟩
theorem O.nextT {y : Operand} {b p c wd : Nat} {x : ByteArray} (hy : evO E tm y = some (.ptr b 0)) (hb : look bx b = some (.iter x p)) (hp : p < x.size) (hdec : Utf8.decode x p = (c, wd)) (hd : Nat.blt d n = true) (h : Ops E.P E.g ops l ⟨n, (d, .tup [.pv (.bool true), .pv (.int .i64 p), .pv (.int .i32 c)]) :: tm, (b, .iter x (p + wd)) :: bx⟩ Θ) :
    Ops E.P E.g ops (⟨some d, .next y true, ty, pos, after, none⟩ :: l) ⟨n, tm, bx⟩ Θ := by
  refine Ops.op rfl (s1 := (St.box ⟨n, tm, bx⟩ b (.iter x (p + wd))).put d (.tup [.pv (.bool true), .pv (.int .i64 p), .pv (.int .i32 c)])) (fun cx a w G hP hg hs K Q hK => ?_) h
  have h1 := hs.ev hg y
  rw [evO_ok hy] at h1
  obtain ⟨k, e1, e2, e3⟩ := iter_ptr hs hb h1
  have hrun : (execOp a.eval ⟨some d, .next y true, ty, pos, after, none⟩).run E.P w = .ok (.value (.tuple #[.bool true, goInt p, .int .i32 c])) { w with heap := w.heap.setIfInBounds k (.stringIter x (p + wd)) } := by
    simp [execOp, e1, Instr.next, Sem.run_bind, Sem.run, getObj, setObj, e3, hp, hdec, Result.andThen]
  unfold Oper.wp
  rw [hrun]
  refine hK _ _ G ((SR.setIter (P := E.P) (g := E.g) hs hb e2).put (Vm.blt hd) (.tup _ _ rfl fun i z v hz hv => ?_))
  match i, hz, hv with
  | 0, hz, hv => simp at hz hv; subst hz; subst hv; exact .pv _ _ (.bool true)
  | 1, hz, hv => simp at hz hv; subst hz; subst hv; exact .pv _ _ (.int _ _)
  | 2, hz, hv => simp at hz hv; subst hz; subst hv; exact .pv _ _ (.int _ _)
  | i + 3, hz, hv => simp at hz
theorem O.nextF {y : Operand} {b p : Nat} {x : ByteArray} (hy : evO E tm y = some (.ptr b 0)) (hb : look bx b = some (.iter x p)) (hp : ¬ p < x.size) (hd : Nat.blt d n = true) (h : Ops E.P E.g ops l ⟨n, (d, .tup [.pv (.bool false)]) :: tm, bx⟩ Θ) :
    Ops E.P E.g ops (⟨some d, .next y true, ty, pos, after, none⟩ :: l) ⟨n, tm, bx⟩ Θ := by
  refine Ops.op rfl (s1 := St.put ⟨n, tm, bx⟩ d (.tup [.pv (.bool false)])) (fun cx a w G hP hg hs K Q hK => ?_) h
  have h1 := hs.ev hg y
  rw [evO_ok hy] at h1
  obtain ⟨k, e1, e2, e3⟩ := iter_ptr hs hb h1
  have hrun : (execOp a.eval ⟨some d, .next y true, ty, pos, after, none⟩).run E.P w = .ok (.value (.tuple #[.bool false])) w := by
    simp [execOp, e1, Instr.next, Sem.run_bind, Sem.run, getObj, e3, hp, Result.andThen]
  unfold Oper.wp
  rw [hrun]
  refine hK _ _ G (hs.put (Vm.blt hd) (.tup _ _ rfl fun i z v hz hv => ?_))
  match i, hz, hv with
  | 0, hz, hv => simp at hz hv; subst hz; subst hv; exact .pv _ _ (.bool false)
  | i + 1, hz, hv => simp at hz
/-- A rune, as a text. -/
theorem O.rune {sr t : TypeId} {y : Operand} {i is : TI} {k : IntKind} {m : Int} (hE : E.Ok) (hs : E.T sr = some is) (hk1 : is.desc = .int k) (ht : E.T t = some i) (hk : i.desc = .strg) (hy : evO E tm y = some (.pv (.int k m))) (hd : Nat.blt d n = true) (h : Ops E.P E.g ops l ⟨n, (d, .pv (.str (Utf8.encode m))) :: tm, bx⟩ Θ) :
    Ops E.P E.g ops (⟨some d, .convert sr t y, ty, pos, after, none⟩ :: l) ⟨n, tm, bx⟩ Θ := by
  refine Ops.op rfl (s1 := St.put ⟨n, tm, bx⟩ d (.pv (.str (Utf8.encode m)))) (fun cx a w G hP hg hs' K Q hK => ?_) h
  have h1 := hs'.ev hg y
  rw [evO_ok hy] at h1
  have h1 : a.eval y = .int k m := h1.of_val rfl
  have hu1 := run_underlying (w := w) (tiOf_int (hE.t _ _ hs) hk1)
  have hu2 := run_underlying (w := w) (tiOf_strg (hE.t _ _ ht) hk)
  have hrun : (execOp a.eval ⟨some d, .convert sr t y, ty, pos, after, none⟩).run E.P w = .ok (.value (.string (Utf8.encode m))) w := by
    simp [execOp, h1, convert, Sem.run_bind, hu1, hu2, Conv.intToString, Sem.run, Result.andThen]
  unfold Oper.wp
  rw [hrun]
  exact hK _ _ G (hs'.put (Vm.blt hd) (.pv _ _ (.str _)))
end
end Go.Proofs.YtlcmnhocicehmaaDoor.Vm

/- The value machine, twenty-eighth part: slices whose elements are changed. Conditions: none. -/
namespace Go.Proofs.YtlcmnhocicehmaaDoor.Vm
open Go Go.RowKit
set_option linter.unusedVariables false
set_option linter.unusedSimpArgs false
/-- The cells of elements, one behind the other. -/
def flat : List PV → List PV
  | [] => []
  | e :: l => e.cells ++ flat l
section
variable {P : Program} {g : Gb}
end
section
variable {P : Program} {g : Gb} {s s1 s' : St} {cx : Cx} {a : Act} {w : World} {G : Gh}
/-- What a value says once a row is read alone. -/
inductive FzV (b : Nat) (ps : List PV) : AV → AV → Prop
  | same (x : AV) : FzV b ps x x
  | row {o n sz : Nat} {els : List PV} (hf : flat els = (ps.drop o).take (n * sz)) (hn : els.length = n) (hz : ∀ e ∈ els, e.cells.length = sz) (h1 : ∀ e ∈ els, ∀ x ∈ e.cells, x.one = true) : FzV b ps (.vrow b o n) (.pv (.lst sz els))
  | agg {xs ys : List AV} (hl : xs.length = ys.length) (h : ∀ (i : Nat) x y, xs[i]? = some x → ys[i]? = some y → FzV b ps x y) : FzV b ps (.agg xs) (.agg ys)
  | tup {xs ys : List AV} (hl : xs.length = ys.length) (h : ∀ (i : Nat) x y, xs[i]? = some x → ys[i]? = some y → FzV b ps x y) : FzV b ps (.tup xs) (.tup ys)
inductive FzVs (b : Nat) (ps : List PV) : List AV → List AV → Prop
  | nil : FzVs b ps [] []
  | cons {x y : AV} {xs ys : List AV} (h : FzV b ps x y) (r : FzVs b ps xs ys) : FzVs b ps (x :: xs) (y :: ys)
theorem FzVs.get {b : Nat} {ps : List PV} {xs ys : List AV} (h : FzVs b ps xs ys) : xs.length = ys.length ∧ ∀ (i : Nat) x y, xs[i]? = some x → ys[i]? = some y → FzV b ps x y := by
  induction h with
  | nil => exact ⟨rfl, fun i x y hx => by simp at hx⟩
  | cons h r ih =>
    refine ⟨by simp [ih.1], fun i x y hx hy => ?_⟩
    cases i with
    | zero => simp at hx hy; subst hx; subst hy; exact h
    | succ i => exact ih.2 i x y (by simpa using hx) (by simpa using hy)
theorem FzV.aggs {b : Nat} {ps : List PV} {xs ys : List AV} (h : FzVs b ps xs ys) : FzV b ps (.agg xs) (.agg ys) := .agg h.get.1 h.get.2
theorem FzV.tups {b : Nat} {ps : List PV} {xs ys : List AV} (h : FzVs b ps xs ys) : FzV b ps (.tup xs) (.tup ys) := .tup h.get.1 h.get.2
inductive TmZ (tm : List (Nat × AV)) (b : Nat) (ps : List PV) : List (Nat × AV) → Prop
  | nil : TmZ tm b ps []
  | cons {t : Nat} {x y : AV} {l : List (Nat × AV)} (h : look tm t = some x) (hz : FzV b ps x y) (r : TmZ tm b ps l) : TmZ tm b ps ((t, y) :: l)
theorem TmZ.get {tm : List (Nat × AV)} {b : Nat} {ps : List PV} {l : List (Nat × AV)} (h : TmZ tm b ps l) (t : Nat) (y : AV) (hy : look l t = some y) : ∃ x, look tm t = some x ∧ FzV b ps x y := by
  induction h with
  | nil => simp [look] at hy
  | @cons k x y' l h hz r ih =>
    rw [look_cons] at hy
    by_cases e : k = t
    · rw [if_pos e] at hy; obtain rfl := Option.some.inj hy; subst e; exact ⟨x, h, hz⟩
    · rw [if_neg e] at hy; exact ih hy
end
section
variable {E : Env} {n : Nat} {tm : List (Nat × AV)} {bx : List (Nat × Box)} {ops : Array Oper} {l : List Oper} {d : Tmp} {ty : TypeId} {pos : String} {after : Array Edge}
end
end Go.Proofs.YtlcmnhocicehmaaDoor.Vm

/- The value machine, twenty-ninth part: jumps back to a label; slices that are made and changed. Conditions: none. -/
namespace Go.Proofs.YtlcmnhocicehmaaDoor.Vm
open Go Go.RowKit
set_option linter.unusedVariables false
set_option linter.unusedSimpArgs false
section
variable {P : Program} {g : Gb} {s s1 s' : St} {x : Ex}
theorem Runs.goto (l : Nat) : Runs P g (.goto l) s (.goto l) s := fun cx a w G _ _ h => wp_goto ⟨rfl, G, h⟩
theorem Runs.label (l : Nat) : Runs P g (.label l) s .normal s := fun cx a w G _ _ h => wp_label ⟨trivial, G, h⟩
/-- So many jumps back to the label, then the end. -/
inductive Jumps (P : Program) (g : Gb) (rest : Code) (l : Nat) : Nat → St → Ex → St → Prop
  | out {s s' : St} {x : Ex} (h : Runs P g rest s x s') (hx : ∀ j, x ≠ .goto j) : Jumps P g rest l 0 s x s'
  | again {n : Nat} {s s1 s' : St} {x : Ex} (h : Runs P g rest s (.goto l) s1) (h2 : Jumps P g rest l n s1 x s') : Jumps P g rest l (n + 1) s x s'
theorem Jumps.pre {rest : Code} {l n : Nat} (h : SLe s s1) (h2 : Jumps P g rest l n s1 x s') : Jumps P g rest l n s x s' := by
  cases h2 with
  | out h3 hx => exact .out (.pre h h3) hx
  | again h3 h4 => exact .again (.pre h h3) h4
theorem least {p : Nat → Prop} : ∀ n, p n → ∃ m, p m ∧ ∀ k, p k → m ≤ k := by
  intro n
  induction n using Nat.strongRecOn with
  | _ n ih =>
    intro hn
    by_cases h : ∃ k, k < n ∧ p k
    · obtain ⟨k, h1, h2⟩ := h
      exact ih k h1 h2
    · exact ⟨n, hn, fun k hk => Nat.le_of_not_lt fun hlt => h ⟨k, hlt, hk⟩⟩
open Classical in
end
section
variable {P : Program} {g : Gb} {s s1 s' : St} {Φ : Ex → St → Prop}
theorem Run.goto {l : Nat} (h : Φ (.goto l) s) : Run P g (.goto l) s Φ := ⟨_, _, .goto l, h⟩
theorem Run.label {l : Nat} (h : Φ .normal s) : Run P g (.label l) s Φ := ⟨_, _, .label l, h⟩
/-- What is left to run from a label on. -/
def ScopeR (P : Program) (g : Gb) (rest : Code) (l : Nat) (s : St) (Φ : Ex → St → Prop) : Prop := ∃ n x s', Jumps P g rest l n s x s' ∧ Φ x s'
def jumpR (l : Nat) (Ψ : St → Prop) (Φ : Ex → St → Prop) : Ex → St → Prop
  | .goto j, s => j = l ∧ Ψ s
  | x, s => Φ x s
theorem ScopeR.step {rest : Code} {l : Nat} (h : Run P g rest s (jumpR l (fun s1 => ScopeR P g rest l s1 Φ) Φ)) : ScopeR P g rest l s Φ := by
  obtain ⟨x, s1, h1, h2⟩ := h
  cases x with
  | goto j =>
    obtain ⟨rfl, n, x', s', h3, h4⟩ := h2
    exact ⟨n + 1, x', s', .again h1 h3, h4⟩
  | normal => exact ⟨0, _, s1, .out h1 (by simp), h2⟩
  | exit id => exact ⟨0, _, s1, .out h1 (by simp), h2⟩
  | ret => exact ⟨0, _, s1, .out h1 (by simp), h2⟩
theorem ScopeR.pre {rest : Code} {l : Nat} (h : SLe s s1) (h1 : ScopeR P g rest l s1 Φ) : ScopeR P g rest l s Φ := let ⟨n, x, s', h2, h3⟩ := h1; ⟨n, x, s', .pre h h2, h3⟩
end
section
variable {P : Program} {g : Gb} {s : St}
end
section
variable {E : Env} {n : Nat} {tm : List (Nat × AV)} {bx : List (Nat × Box)} {ops : Array Oper} {l : List Oper} {d : Tmp} {ty : TypeId} {pos : String} {after : Array Edge}
end
end Go.Proofs.YtlcmnhocicehmaaDoor.Vm
