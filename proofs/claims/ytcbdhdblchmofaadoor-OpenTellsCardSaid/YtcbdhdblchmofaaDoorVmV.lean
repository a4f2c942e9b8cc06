/- The value machine, twenty-first part: variables that are read alone from now on; slices of arrays. Conditions: none. -/
import Derived.Test.YtcbdhdblchmofaaDoorVmU
import Derived.Laws.IdiomCopy
namespace Go.Proofs.YtcbdhdblchmofaaDoor.Vm
open Go Go.RowKit
set_option linter.unusedVariables false
set_option linter.unusedSimpArgs false
/-- What a state says once a variable is read alone: its addresses are those of cells that stay. -/
inductive TmFz (tm : List (Nat × AV)) (b : Nat) (ps : List PV) : List (Nat × AV) → Prop
  | nil : TmFz tm b ps []
  | keep {t : Nat} {x : AV} {l : List (Nat × AV)} (h : look tm t = some x) (r : TmFz tm b ps l) : TmFz tm b ps ((t, x) :: l)
  | fz {t o : Nat} {qs : List PV} {l : List (Nat × AV)} (h : look tm t = some (.ptr b o)) (hq : ps.drop o = qs) (r : TmFz tm b ps l) : TmFz tm b ps ((t, .eptr qs) :: l)
theorem TmFz.get {tm : List (Nat × AV)} {b : Nat} {ps : List PV} {l : List (Nat × AV)} (h : TmFz tm b ps l) (t : Nat) (x : AV) (hx : look l t = some x) : look tm t = some x ∨ ∃ o, look tm t = some (.ptr b o) ∧ x = .eptr (ps.drop o) := by
  induction h with
  | nil => simp [look] at hx
  | @keep k y l h r ih =>
    rw [look_cons] at hx
    by_cases e : k = t
    · rw [if_pos e] at hx; obtain rfl := Option.some.inj hx; subst e; exact .inl h
    · rw [if_neg e] at hx; exact ih hx
  | @fz k o qs l h hq r ih =>
    rw [look_cons] at hx
    by_cases e : k = t
    · rw [if_pos e] at hx; obtain rfl := Option.some.inj hx; subst e; exact .inr ⟨o, h, by rw [hq]⟩
    · rw [if_neg e] at hx; exact ih hx
theorem mtm_look {bx : List (Nat × Box)} : ∀ {l : List (Nat × AV)}, mtm bx l = true → ∀ t x, look l t = some x → men3 bx x = true
  | [], _, t, x, hx => by simp [look] at hx
  | (k, y) :: l, h, t, x, hx => by
    simp only [mtm, Bool.and_eq_true] at h
    rw [look_cons] at hx
    by_cases e : k = t
    · rw [if_pos e] at hx; obtain rfl := Option.some.inj hx; exact h.1
    · rw [if_neg e] at hx; exact mtm_look h.2 t x hx
theorem mbx_look {bx : List (Nat × Box)} : ∀ {l : List (Nat × Box)}, mbx bx l = true → ∀ t x, look l t = some x → menB bx x = true
  | [], _, t, x, hx => by simp [look] at hx
  | (k, y) :: l, h, t, x, hx => by
    simp only [mbx, Bool.and_eq_true] at h
    rw [look_cons] at hx
    by_cases e : k = t
    · rw [if_pos e] at hx; obtain rfl := Option.some.inj hx; exact h.1
    · rw [if_neg e] at hx; exact mbx_look h.2 t x hx
theorem SLe.freeze {n : Nat} {tm tm' : List (Nat × AV)} {bx bx' : List (Nat × Box)} (b : Nat) {ps : List PV} (hb : look bx b = some (.var (ps.map .pv))) (ht : TmFz tm b ps tm') (hbx : BxIn bx bx') (hnb : has bx' b = false) (hm : mtm bx' tm' = true) (hmb : mbx bx' bx' = true) : SLe ⟨n, tm, bx⟩ ⟨n, tm', bx'⟩ := by
  intro cx a w G h
  obtain ⟨k0, ty0, vs0, f1, f2, f3, f4, f5, f6⟩ := h.bx b _ hb
  obtain ⟨G', hG⟩ : ∃ G' : Gh, G' = ⟨fun c o => if c = k0 then vs0[o]? else G.dat c o, fun b => if has bx' b = true then G.blk b else none, fun b => if has bx' b = true then G.ls b else none⟩ := ⟨_, rfl⟩
  have hdat : ∀ c o v, G.dat c o = some v → G'.dat c o = some v := fun c o v hv => by
    have : c ≠ k0 := fun e => by subst e; rw [f6] at hv; cases hv
    subst hG
    simp only [this, if_false]; exact hv
  have hagree : ∀ {x : AV} {v : Value}, RA G x v → Mentions (has bx') x → RA G' x v := fun hx hm =>
    hx.agree (G' := G') (D := has bx') hdat (fun b k hD hk => by subst hG; simp [hD, hk]) (fun b x hD hk => by subst hG; simp [hD, hk]) hm
  have hown : ∀ b' k, G'.own b' = some k → G.own b' = some k ∧ has bx' b' = true := fun b' k hk => by
    subst hG
    unfold Gh.own at hk ⊢
    by_cases c : has bx' b' = true
    · exact ⟨by simpa [c] using hk, c⟩
    · simp [c] at hk
  have hk0 : G.own b = some k0 := h.own_var f1
  have hne : ∀ b' k, has bx' b' = true → G.own b' = some k → k ≠ k0 := fun b' k hb' hk e => by
    subst e
    have := h.inj b' b k hk hk0
    subst this
    rw [hnb] at hb'; cases hb'
  have heptr : ∀ cs v, RA G (.eptr cs) v → RA G' (.eptr cs) v := fun cs v hv => hagree hv (.eptr cs)
  refine ⟨G', ⟨fun t => ?_, h.sz, h.df, fun c o v hv => ?_, fun b' B hB => ?_, fun b' k hk => ?_, fun b' x hx => ?_, fun b1 b2 k hk hk' => h.inj b1 b2 k (hown b1 k hk).1 (hown b2 k hk').1, h.bel, fun c o hc => ?_, fun gg cs hg => heptr _ _ (h.glo gg cs hg), h.bas⟩⟩
  · unfold St.get
    cases hl : look tm' t with
    | none => exact .any _
    | some x =>
      have hx := mtm_look hm t x hl
      have h1 := h.tm t
      rcases ht.get t x hl with e | ⟨o, e, rfl⟩
      · have : St.get ⟨n, tm, bx⟩ t = x := by simp [St.get, e]
        rw [this] at h1
        exact hagree h1 (men3_ok hx)
      · have : St.get ⟨n, tm, bx⟩ t = .ptr b o := by simp [St.get, e]
        rw [this] at h1
        generalize a.tmps.getD t undef = v at h1
        cases h1 with
        | ptr _ _ k' hk' =>
          rw [f1] at hk'
          obtain rfl := Option.some.inj hk'
          refine .eptr _ _ rfl fun j x hx => ?_
          rw [List.getElem?_drop] at hx
          have hlt : o + j < vs0.size := by
            have := (List.getElem?_eq_some_iff.1 hx).1
            rw [f4]; simpa using this
          refine ⟨vs0[o + j], by subst hG; simp [hlt], ?_⟩
          have := f5 (o + j) (.pv x) vs0[o + j] (by simp [hx]) (Array.getElem?_eq_getElem hlt)
          cases this with
          | pv _ _ hp => exact hp.mono hdat
  · by_cases e : c = k0
    · subst e
      have hv' : vs0[o]? = some v := by subst hG; simpa using hv
      simp [World.cell?, f3, hv']
    · have hv' : G.dat c o = some v := by subst hG; simpa [e] using hv
      exact h.dat c o v hv'
  · have hD : has bx' b' = true := by simp [has, hB]
    have hB0 : look bx b' = some B := by
      rcases hbx.get b' with e | e
      · rw [e] at hB; cases hB
      · rw [← e]; exact hB
    have h1 := h.bx b' B hB0
    have hmB := mbx_look hmb b' B hB
    cases B with
    | var cs =>
      obtain ⟨k, ty, vs, e1, e2, e3, e4, e5, e6⟩ := h1
      have hk : k ≠ k0 := hne b' k hD (h.own_var e1)
      exact ⟨k, ty, vs, by subst hG; simp [hD, e1], e2, e3, e4, fun i x v hx hv => hagree (e5 i x v hx hv) (mens2_ok hmB x (List.mem_of_getElem? hx)), fun o => by subst hG; simp only [hk, if_false]; exact e6 o⟩
    | lst e sz xs =>
      obtain ⟨hh, us, e1, e2, e3, e4, e5⟩ := h1
      refine ⟨hh, us, by subst hG; simp [hD, e1], e2, e3, e4.mono hdat, fun k hk o ho => ?_⟩
      have hk' : k ≠ k0 := hne b' k hD ((h.own_lst e1).trans hk)
      subst hG
      simp only [hk', if_false]
      exact e5 k hk o ho
  · have hD : has bx' b' = true := by
      subst hG
      by_cases c : has bx' b' = true
      · exact c
      · simp [c] at hk
    have hk1 : G.blk b' = some k := by subst hG; simpa [hD] using hk
    obtain ⟨cs, hc⟩ := h.gb b' k hk1
    unfold has at hD
    obtain ⟨B, hB⟩ := Option.isSome_iff_exists.1 hD
    rcases hbx.get b' with e | e
    · rw [e] at hB; cases hB
    · exact ⟨cs, e.trans hc⟩
  · have hD : has bx' b' = true := by
      subst hG
      by_cases c : has bx' b' = true
      · exact c
      · simp [c] at hx
    have hx1 : G.ls b' = some x := by subst hG; simpa [hD] using hx
    obtain ⟨e0, sz, xs, hc⟩ := h.gl b' x hx1
    unfold has at hD
    obtain ⟨B, hB⟩ := Option.isSome_iff_exists.1 hD
    rcases hbx.get b' with e | e
    · rw [e] at hB; cases hB
    · exact ⟨e0, sz, xs, e.trans hc⟩
  · have : c ≠ k0 := by omega
    subst hG
    simp only [this, if_false]
    exact h.low c o hc
theorem Run.freeze {P : Program} {g : Nat → Option (List PV)} {c : Code} {Φ : Ex → St → Prop} {n : Nat} {tm tm' : List (Nat × AV)} {bx bx' : List (Nat × Box)} (b : Nat) {ps : List PV} (hb : look bx b = some (.var (ps.map .pv))) (ht : TmFz tm b ps tm') (hbx : BxIn bx bx') (hnb : has bx' b = false) (hm : mtm bx' tm' = true) (hmb : mbx bx' bx' = true)
    (h : Run P g c ⟨n, tm', bx'⟩ Φ) : Run P g c ⟨n, tm, bx⟩ Φ := Run.pre (SLe.freeze b hb ht hbx hnb hm hmb) h
section
variable {P : Program} {g : Nat → Option (List PV)} {s : St}
theorem arr_facts {t e : TypeId} {i : TI} {len : Nat} (ht : tiOf P t = some i) (hk : i.desc = .arr len e) : P.arrayLen t = len ∧ P.elem t = e ∧ P.underlying t = some (.array (P.arrayLen t) (P.elem t)) := by
  have hu := tiOf_arr ht hk
  have h1 : P.arrayLen t = len := by simp [Program.arrayLen, hu]
  have h2 : P.elem t = e := by simp [Program.elem, hu]
  exact ⟨h1, h2, by rw [h1, h2]; exact hu⟩
/-- All of an array that is read alone, as a slice. -/
theorem OpOk.sliceE {dst : Option Tmp} {t e : TypeId} {y : Operand} {ty : TypeId} {pos : String} {after : Array Edge} {gd : Option (Nat × Bool)} {i ie : TI} {len : Nat} {k : IntKind} {l : List Int} (ht : tiOf P t = some i) (hk : i.desc = .arr len e) (he : tiOf P e = some ie) (hy : s.ev g y = .eptr (l.map (PV.int k))) (hl : l.length = len) (hmx : len ≤ maxLen)
    (hd : ∀ t, dst = some t → t < s.n) : OpOk P g ⟨dst, .slice t y none none none, ty, pos, after, gd⟩ s (s.putO dst (.pv (.lst 1 (l.map (PV.int k))))) := by
  refine OpOk.val (o := ⟨dst, .slice t y none none none, ty, pos, after, gd⟩) hd (fun cx a w G hP hg hs => ?_)
  have h1 := hs.ev hg y
  rw [hy] at h1
  generalize hv : a.eval y = v at h1
  obtain ⟨a1, a2, a3⟩ := arr_facts ht hk
  cases h1 with
  | eptr _ ad hsp hcells =>
    refine ⟨.slice (some ad) len len, ?_, .pv _ _ ?_⟩
    · have := run_sliceAt_array_all (P := P) w t ad a3
      rw [a1, a2, tiOf_size he w] at this
      simp only [execOp, hv, Option.map_none, this, Sem.run_bind, Result.andThen_ok, slicedAt, Nat.zero_mul]
      by_cases hz : len = 0
      · subst hz; simp [Sem.run]
      · have ha : ad.add 0 = ad := by rw [add_spot ad hsp 0]; cases ad; simp at hsp; simp [hsp]
        rw [if_neg hz, ha]
        simp [Sem.run]
    · refine .lst 1 _ _ _ _ (by simp [hl]) (Nat.le_refl _) hmx (fun p hp => ?_) (fun p hp q hq => ?_) (fun h => by cases h) (fun a' h => by obtain rfl := Option.some.inj h; exact hsp) (fun a' q j p x ha hp hx => ?_) (fun a' q j p x v' ha hp hx hv' => ?_)
      · obtain ⟨z, _, rfl⟩ := List.mem_map.1 hp; rfl
      · obtain ⟨z, _, rfl⟩ := List.mem_map.1 hp
        simp [PV.cells] at hq
        subst hq; rfl
      · obtain rfl := Option.some.inj ha
        have hp' := hp
        rw [List.getElem?_map, Option.map_eq_some_iff] at hp
        obtain ⟨z, hz, rfl⟩ := hp
        cases j with
        | zero =>
          obtain ⟨v', e1, _⟩ := hcells q _ hp'
          exact ⟨v', by simpa using e1⟩
        | succ j => simp [PV.cells] at hx
      · obtain rfl := Option.some.inj ha
        have hp' := hp
        rw [List.getElem?_map, Option.map_eq_some_iff] at hp
        obtain ⟨z, hz, rfl⟩ := hp
        cases j with
        | zero =>
          obtain ⟨v2, e1, e2⟩ := hcells q _ hp'
          simp only [Nat.mul_one, Nat.add_zero] at hv'
          rw [e1] at hv'
          obtain rfl := Option.some.inj hv'
          simp [PV.cells] at hx
          subst hx
          exact e2
        | succ j => simp [PV.cells] at hx
/-- All of an array variable, as a slice of it. -/
theorem OpOk.sliceW {dst : Option Tmp} {t e : TypeId} {y : Operand} {ty : TypeId} {pos : String} {after : Array Edge} {gd : Option (Nat × Bool)} {i ie : TI} {len b o : Nat} (ht : tiOf P t = some i) (hk : i.desc = .arr len e) (he : tiOf P e = some ie) (hpos : 0 < len) (hy : s.ev g y = .ptr b o)
    (hd : ∀ t, dst = some t → t < s.n) : OpOk P g ⟨dst, .slice t y none none none, ty, pos, after, gd⟩ s (s.putO dst (.vrow b o len)) := by
  refine OpOk.val (o := ⟨dst, .slice t y none none none, ty, pos, after, gd⟩) hd (fun cx a w G hP hg hs => ?_)
  have h1 := hs.ev hg y
  rw [hy] at h1
  generalize hv : a.eval y = v at h1
  obtain ⟨a1, a2, a3⟩ := arr_facts ht hk
  cases h1 with
  | ptr _ _ k hk' =>
    refine ⟨.slice (some ⟨k, o, none⟩) len len, ?_, .vrow b o len len k hk' (Nat.le_refl _)⟩
    have := run_sliceAt_array_all (P := P) w t ⟨k, o, none⟩ a3
    rw [a1, a2, tiOf_size he w] at this
    simp only [execOp, hv, Option.map_none, this, Sem.run_bind, Result.andThen_ok, slicedAt, Nat.zero_mul]
    rw [if_neg (by omega), add_plain0]
    simp [Sem.run]
end

section
variable {P : Program} {g : Nat → Option (List PV)} {s : St}
/-- Numbers copied into an array variable, all of them. -/
theorem OpOk.copyW {dst : Option Tmp} {dT sT e : TypeId} {y x : Operand} {ty : TypeId} {pos : String} {after : Array Edge} {gd : Option (Nat × Bool)} {i ie : TI} {b o m : Nat} {z : AV} {k : IntKind} {l : List Int} {cs cs' : List AV} (ht : tiOf P dT = some i) (hk : i.desc = .slc e) (he : tiOf P e = some ie) (h1 : ie.size = 1)
    (hy : s.ev g y = .vrow b o m) (hx : s.ev g x = z) (hl : s.lstOf z = some (1, l.map (PV.int k))) (hm : l.length ≤ m) (hb : look s.bx b = some (.var cs)) (ho : o + l.length ≤ cs.length) (hcs : setAt cs o (ints k l) = cs') (hd : ∀ t, dst = some t → t < s.n) :
    OpOk P g ⟨dst, .call { callee := .builtin .copy, args := #[y, x], argTypes := #[dT, sT] }, ty, pos, after, gd⟩ s ((s.box b (.var cs')).putO dst (.pv (.int .i64 l.length))) := by
  intro cx a w G hP hg hs K Q hK
  subst hP
  have q1 := hs.ev hg y
  have q2 := hs.lst (hs.ev hg x) (by rw [hx]; exact hl)
  rw [hy] at q1
  obtain ⟨k0, tk, vs, b1, b2, b3, b4, b5, b6⟩ := hs.bx b _ hb
  generalize hv : a.eval y = v at q1
  generalize hu : a.eval x = u at q2
  obtain ⟨inf, z0, d0, i1, i2, i3, i4, i5, i6, i7⟩ := tiOf_ok he
  have hsz : (cx.P.info? e).map (·.size) = some 1 := by rw [i1]; simp [i4, h1]
  cases q1 with
  | vrow _ _ _ c k' hk' hc =>
    rw [hk'] at b1
    obtain rfl := Option.some.inj b1
    cases q2 with
    | lst _ _ A n c2 hn hc2 hm2 hz h1' hnone hspot hdat hrp =>
      obtain ⟨vals, hvals⟩ : ∃ vals : List Value, vals = l.map (Value.int k) := ⟨_, rfl⟩
      have hvl : vals.length = l.length := by rw [hvals]; simp
      have hnl : n = l.length := by rw [hn]; simp
      have hrun : (execOp a.eval ⟨dst, .call { callee := .builtin .copy, args := #[y, x], argTypes := #[dT, sT] }, ty, pos, after, gd⟩).run cx.P w = .ok (.value (.int .i64 l.length)) (w.setRow k' (setAt vs.toList o vals).toArray) := by
        have key : (Builtin.copy_ #[dT, sT] ty #[.slice (some ⟨k', o, none⟩) m c, .slice A n c2]).run cx.P w = .ok (.int .i64 l.length) (w.setRow k' (setAt vs.toList o vals).toArray) := by
          have hmin : Nat.min n m = l.length := by rw [hnl]; exact Nat.min_eq_left hm
          cases A with
          | none =>
            have hxs : l = [] := by
              have := hnone rfl
              simpa using this
            subst hxs
            have e0 : vals = [] := by rw [hvals]; rfl
            have hk2 := run_copy_none (P := cx.P) w dT sT ty e (some ⟨k', o, none⟩) none m c n c2 (tiOf_slc ht hk) hsz (by rw [hmin]; rfl)
            rw [hk2, e0]
            have : w.setRow k' (setAt vs.toList o []).toArray = w := by
              have e1 : (setAt vs.toList o []).toArray = vs := by simp [setAt]
              rw [e1]
              exact setRow_self w k' vs tk (0, 0) b3
            rw [this]
            rfl
          | some ad =>
            have hsp := hspot ad rfl
            have hr := run_copy_row (P := cx.P) w dT sT ty e k' o m c ad n c2 vs tk vals (tiOf_slc ht hk) hsz b3 (by rw [hvl, hmin]) (fun j v hj => by
              rw [hvals, List.getElem?_map, Option.map_eq_some_iff] at hj
              obtain ⟨z, hz', rfl⟩ := hj
              have hj1 : (l.map (PV.int k))[j]? = some (.int k z) := by rw [List.getElem?_map, hz']; rfl
              obtain ⟨v', e1⟩ := hdat ad j 0 _ _ rfl hj1 rfl
              have e2 := hrp ad j 0 _ _ v' rfl hj1 rfl e1
              simp only [Nat.mul_one, Nat.add_zero] at e1
              rw [add_spot ad hsp, hs.dat _ _ _ e1]
              cases e2
              rfl) (by rw [hvl, b4]; exact ho) (fun v hv => by
                rw [hvals] at hv
                obtain ⟨z, _, rfl⟩ := List.mem_map.1 hv
                rfl)
            rw [hr, hvl]
            unfold setAt
            rw [hvl]
            rfl
        simp only [execOp, resolve, Sem.run_bind, Sem.run_pure, Result.andThen_ok, invoke, builtin]
        simp only [List.map_toArray, List.map_cons, List.map_nil, hv, hu]
        rw [key]
        rfl
      unfold Oper.wp
      rw [hrun]
      subst hcs
      refine hK _ _ G ?_
      have hl2 : (setAt vs.toList o vals).length = (setAt cs o (ints k l)).length := by
        simp [setAt, hvl, b4, ints_len]
      have h3 := SR.setVar (s := s) hs hb hk' b3 (vs' := (setAt vs.toList o vals).toArray) (cs' := setAt cs o (ints k l)) (by simpa using hl2) (fun j u v' hu' hv' => by
        have w1 : ∀ (j : Nat) u v', cs[j]? = some u → vs.toList[j]? = some v' → RA G u v' := fun j u v' hu hv' => b5 j u v' hu (by rwa [Array.getElem?_toList] at hv')
        have w2 : ∀ (j : Nat) u v', (ints k l)[j]? = some u → vals[j]? = some v' → RA G u v' := fun j u v' hu hv' => by
          rw [hvals, List.getElem?_map, Option.map_eq_some_iff] at hv'
          obtain ⟨z, hz', rfl⟩ := hv'
          simp only [ints, List.getElem?_map, hz', Option.map_some] at hu
          obtain rfl := Option.some.inj hu
          exact .pv _ _ (.int _ _)
        exact setAt_pt (R := RA G) w1 w2 (by rw [Array.length_toList]; exact b4) (by rw [hvl, ints_len]) (by rw [ints_len]; exact ho) j u v' hu' (by simpa using hv'))
      exact h3.putO hd (.pv _ _ (.int _ _))
end
section
variable {E : Env} {n : Nat} {tm : List (Nat × AV)} {bx : List (Nat × Box)} {ops : Array Oper} {l : List Oper} {d : Tmp} {ty : TypeId} {pos : String} {after : Array Edge}
theorem O.sliceE {Θ : St → Prop} {t e : TypeId} {y : Operand} {i ie : TI} {len : Nat} {k : IntKind} {q : List Int} (hE : E.Ok) (ht : E.T t = some i) (hk : i.desc = .arr len e) (he : E.T e = some ie) (hy : evO E tm y = some (.eptr (q.map (PV.int k)))) (hl : q.length = len) (hmx : Nat.ble len 1000000 = true) (hd : Nat.blt d n = true)
    (h : Ops E.P E.g ops l ⟨n, (d, .pv (.lst 1 (q.map (PV.int k)))) :: tm, bx⟩ Θ) : Ops E.P E.g ops (⟨some d, .slice t y none none none, ty, pos, after, none⟩ :: l) ⟨n, tm, bx⟩ Θ :=
  Ops.op rfl (OpOk.sliceE (hE.t _ _ ht) hk (hE.t _ _ he) (evO_ok hy) hl (by have := Nat.le_of_ble_eq_true hmx; unfold maxLen; omega) (dlt hd)) h
theorem D.sliceE {Θ : List Rec → St → Prop} {t e : TypeId} {y : Operand} {i ie : TI} {len : Nat} {k : IntKind} {q : List Int} (hE : E.Ok) (ht : E.T t = some i) (hk : i.desc = .arr len e) (he : E.T e = some ie) (hy : evO E tm y = some (.eptr (q.map (PV.int k)))) (hl : q.length = len) (hmx : Nat.ble len 1000000 = true) (hd : Nat.blt d n = true)
    (h : Dr E.P E.g ops l ⟨n, (d, .pv (.lst 1 (q.map (PV.int k)))) :: tm, bx⟩ (fun rs => Θ (⟨rtOf y (.eptr (q.map (PV.int k))), [], [], some d, .pv (.lst 1 (q.map (PV.int k))), []⟩ :: rs))) : Dr E.P E.g ops (⟨some d, .slice t y none none none, ty, pos, after, none⟩ :: l) ⟨n, tm, bx⟩ Θ :=
  D.of (rt := rtOf y (.eptr (q.map (PV.int k)))) (rb := []) (rt_now hy) none_met hd (fun s hs _ hd' => OpOk.sliceE (s := s) (hE.t _ _ ht) hk (hE.t _ _ he) (evO_ok (n := s.n) (bx := s.bx) (rt_ev hy hs)) hl (by have := Nat.le_of_ble_eq_true hmx; unfold maxLen; omega) (fun t ht => by obtain rfl := Option.some.inj ht; exact hd')) h
theorem O.sliceW {Θ : St → Prop} {t e : TypeId} {y : Operand} {i ie : TI} {len b o : Nat} (hE : E.Ok) (ht : E.T t = some i) (hk : i.desc = .arr len e) (he : E.T e = some ie) (hpos : Nat.blt 0 len = true) (hy : evO E tm y = some (.ptr b o)) (hd : Nat.blt d n = true)
    (h : Ops E.P E.g ops l ⟨n, (d, .vrow b o len) :: tm, bx⟩ Θ) : Ops E.P E.g ops (⟨some d, .slice t y none none none, ty, pos, after, none⟩ :: l) ⟨n, tm, bx⟩ Θ :=
  Ops.op rfl (OpOk.sliceW (hE.t _ _ ht) hk (hE.t _ _ he) (Vm.blt hpos) (evO_ok hy) (dlt hd)) h
theorem O.copyW {Θ : St → Prop} {dT sT e : TypeId} {y x : Operand} {i ie : TI} {b o m : Nat} {z : AV} {k : IntKind} {q : List Int} {cs cs' : List AV} (hE : E.Ok) (ht : E.T dT = some i) (hk : i.desc = .slc e) (he : E.T e = some ie) (h1 : Nat.beq ie.size 1 = true) (hy : evO E tm y = some (.vrow b o m)) (hx : evO E tm x = some z)
    (hl : lstO bx z = some (1, q.map (PV.int k))) (hn : newest bx z) (hm : q.length ≤ m) (hb : look bx b = some (.var cs)) (ho : o + q.length ≤ cs.length) (hcs : setAt cs o (ints k q) = cs') (hd : Nat.blt d n = true) (h : Ops E.P E.g ops l ⟨n, (d, .pv (.int .i64 q.length)) :: tm, (b, .var cs') :: bx⟩ Θ) :
    Ops E.P E.g ops (⟨some d, .call { callee := .builtin .copy, args := #[y, x], argTypes := #[dT, sT] }, ty, pos, after, none⟩ :: l) ⟨n, tm, bx⟩ Θ :=
  Ops.op rfl (OpOk.copyW (s := ⟨n, tm, bx⟩) (hE.t _ _ ht) hk (hE.t _ _ he) (Nat.eq_of_beq_eq_true h1) (evO_ok hy) (evO_ok hx) (lstO_ok hl hn) hm hb ho hcs (dlt hd)) h
end

theorem ints_pv (k : IntKind) (q : List Int) : ints k q = (q.map (PV.int k)).map .pv := by simp [ints]
theorem Run.freezeI {P : Program} {g : Nat → Option (List PV)} {c : Code} {Φ : Ex → St → Prop} {n : Nat} {tm tm' : List (Nat × AV)} {bx bx' : List (Nat × Box)} (b : Nat) {k : IntKind} {q : List Int} (hb : look bx b = some (.var (ints k q))) (ht : TmFz tm b (q.map (PV.int k)) tm') (hbx : BxIn bx bx') (hnb : has bx' b = false) (hm : mtm bx' tm' = true) (hmb : mbx bx' bx' = true)
    (h : Run P g c ⟨n, tm', bx'⟩ Φ) : Run P g c ⟨n, tm, bx⟩ Φ := Run.freeze b (by rw [hb, ints_pv]) ht hbx hnb hm hmb h

theorem lenC {α β : Type} {l : List α} {f : α → β} : ((l.map f).length : Int) = l.length := by rw [List.length_map]
section
variable {E : Env} {n : Nat} {tm : List (Nat × AV)} {bx : List (Nat × Box)} {ops : Array Oper} {l : List Oper} {d : Tmp} {ty : TypeId} {pos : String} {after : Array Edge}
theorem O.lenN {Θ : St → Prop} {t e : TypeId} {y : Operand} {i : TI} {z : AV} {q : Nat × List PV} {m : Int} (hE : E.Ok) (ht : E.T t = some i) (hk : i.desc = .slc e) (hy : evO E tm y = some z) (hl : lstO bx z = some q) (hn : newest bx z) (hm : (q.2.length : Int) = m) (hd : Nat.blt d n = true) (h : Ops E.P E.g ops l ⟨n, (d, .pv (.int .i64 m)) :: tm, bx⟩ Θ) :
    Ops E.P E.g ops (⟨some d, .call { callee := .builtin .len, args := #[y], argTypes := #[t] }, ty, pos, after, none⟩ :: l) ⟨n, tm, bx⟩ Θ := by
  subst hm
  exact O.lenLst hE ht hk hy hl hn hd h
end

section
variable {E : Env} {n : Nat} {tm : List (Nat × AV)} {bx : List (Nat × Box)} {ops : Array Oper} {l : List Oper} {d : Tmp} {ty : TypeId} {pos : String} {after : Array Edge}
/-- Numbers behind numbers. -/
theorem O.appI {Θ : St → Prop} {t e : TypeId} {y x : Operand} {i ie : TI} {b m sz s2 : Nat} {k : IntKind} {q r : List Int} {z : AV} (hE : E.Ok) (ht : E.T t = some i) (hk : i.desc = .slc e) (he : E.T e = some ie) (hy : evO E tm y = some (.gl b m)) (hb : look bx b = some (.lst e sz (q.map (PV.int k)))) (hm : m = q.length) (hx : evO E tm x = some z)
    (hl : lstO bx z = some (s2, r.map (PV.int k))) (hn : newest bx z) (hsz : s2 = sz) (hsz2 : sz = ie.size) (hz : Nat.beq ie.zero.length ie.size = true) (hpos : Nat.blt 0 ie.size = true) (hb1 : (q.length + r.length) * ie.bytes ≤ 140737488355328) (hb2 : q.length + r.length ≤ maxLen) (hd : Nat.blt d n = true)
    (h : Ops E.P E.g ops l ⟨n, (d, .gl b (q ++ r).length) :: tm, (b, .lst e sz ((q ++ r).map (PV.int k))) :: bx⟩ Θ) : Ops E.P E.g ops (⟨some d, .call { callee := .builtin .append, args := #[y, x], argTypes := #[t, t] }, ty, pos, after, none⟩ :: l) ⟨n, tm, bx⟩ Θ := by
  refine O.append hE ht hk he hy hb (by simp [hm]) hx hl hn hsz hsz2 hz hpos (by simpa using hb1) (by simpa using hb2) List.map_append.symm hd ?_
  rw [List.length_map]
  exact h
end
end Go.Proofs.YtcbdhdblchmofaaDoor.Vm
