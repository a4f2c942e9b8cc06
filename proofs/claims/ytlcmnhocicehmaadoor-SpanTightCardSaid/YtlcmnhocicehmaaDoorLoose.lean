/- Regions whose order is drawn: a call to which boxes are lent beside reads of what the call leaves as it is. Conditions: none. -/
import Derived.Test.YtlcmnhocicehmaaDoorPick
namespace Go.Proofs.YtlcmnhocicehmaaDoor.Vm
open Go Go.RowKit
set_option linter.unusedVariables false
set_option linter.unusedSimpArgs false
section
variable {P : Program} {g : Gb} {s s1 s' : St} {cx : Cx} {a : Act} {w : World} {G : Gh}
/-- A call to which boxes are lent that are all handed back: all that was known stays known. -/
theorem OpOk.lendS {o : Oper} {d : Tmp} {f : FuncId} {args : List AV} {bi : List (Nat × Box)} {r : AV} {bo bx' kb : List (Nat × Box)} {ln : List Nat} (ho : o.dst = some d)
    (hc : FnLOk P ⟨g.fn, ln⟩ f args bi r bo) (hb : ∃ fn, P.funcs[f]? = some fn)
    (hrun : ∀ (cx : Cx) (a : Act) (w : World) (G : Gh), cx.P = P → cx.g = g → SR cx s a w G → ∃ vals : Array Value, (execOp a.eval o).run P w = .ok (.enter f vals) w ∧ vals.size = args.length ∧ ∀ (i : Nat) x v, args[i]? = some x → vals[i]? = some v → RA G x v)
    (hcl : ∀ x ∈ args, men3 bi x = true) (hbi : BxIn s.bx bi) (hbc : mbx bi bi = true) (hln : lnVars bi ln = true) (hbx : BxIn s.bx bx') (hd1 : disj bi bx' = true) (hd2 : disj bx' bo = true) (hnw : lnNew ln g.ln bo = true) (hkb : klOk ln bo kb = true)
    (hall : ∀ b, has s.bx b = true → has bx' b = true ∨ has kb b = true) (hd : d < s.n) :
    OpOk P g o s ⟨s.n, (d, r) :: s.tm, bo ++ bx'⟩ := by
  intro cx a w G hP hg hs K Q hK
  obtain ⟨vals, hex, hsz, hvals⟩ := hrun cx a w G hP hg hs
  unfold Oper.wp
  rw [hex]
  subst hP
  subst hg
  have hbil : ∀ b B, look bi b = some B → look s.bx b = some B := fun b B h => by
    rcases hbi.get b with e | e
    · rw [e] at h; cases h
    · rw [← e]; exact h
  have hbxl : ∀ b B, look bx' b = some B → look s.bx b = some B := fun b B h => by
    rcases hbx.get b with e | e
    · rw [e] at h; cases h
    · rw [← e]; exact h
  have hbxh : ∀ b B, look s.bx b = some B → has bx' b = true → look bx' b = some B := fun b B h hh => by
    obtain ⟨C, hC⟩ := of_has hh
    rw [hbxl b C hC] at h
    obtain rfl := Option.some.inj h
    exact hC
  have hbih : ∀ b B, look s.bx b = some B → has bi b = true → look bi b = some B := fun b B h hh => by
    obtain ⟨C, hC⟩ := of_has hh
    rw [hbil b C hC] at h
    obtain rfl := Option.some.inj h
    exact hC
  obtain ⟨G0, hG0⟩ : ∃ G0 : Gh, G0 = ⟨G.dat, fun b => if has bi b = true then G.blk b else none, fun b => if has bi b = true then G.ls b else none⟩ := ⟨_, rfl⟩
  have hown0 : ∀ b k, G0.own b = some k → has bi b = true ∧ G.own b = some k := fun b k hk => by
    subst hG0
    unfold Gh.own at hk ⊢
    by_cases c : has bi b = true
    · exact ⟨c, by simpa [c] using hk⟩
    · simp [c] at hk
  have hown0' : ∀ b k, has bi b = true → G.own b = some k → G0.own b = some k := fun b k hD hk => by
    subst hG0
    unfold Gh.own at hk ⊢
    simpa [hD] using hk
  have hagree0 : ∀ {x : AV} {v : Value}, RA G x v → Mentions (has bi) x → RA G0 x v := fun hx hm =>
    hx.agree (G' := G0) (D := has bi) (fun _ _ _ h => by subst hG0; exact h) (fun b k hD hk => by subst hG0; simp [hD, hk]) (fun b x hD hk => by subst hG0; simp [hD, hk]) hm
  obtain ⟨cx', hcx⟩ : ∃ cx' : Cx, cx' = ⟨cx.P, w.heap.size, w, G.dat, ⟨cx.g.fn, ln⟩, fun b => if inN ln b = true then G0.blk b else none, fun k => ∃ b, G0.own b = some k⟩ := ⟨_, rfl⟩
  have hmay : ∀ k, cx'.may k → ∃ b, has bi b = true ∧ G.own b = some k := fun k hk => by
    subst hcx
    obtain ⟨b, hb⟩ := hk
    exact ⟨b, hown0 b k hb⟩
  have hmay' : ∀ b k, has bi b = true → G.own b = some k → cx'.may k := fun b k hD hk => by
    subst hcx
    exact ⟨b, hown0' b k hD hk⟩
  have hlend : ∀ b, inN ln b = true → cx'.lend b = G.blk b := fun b hb => by
    obtain ⟨cs, h1⟩ := lnVars_ok hln b hb
    subst hcx
    subst hG0
    simp [hb, has_of h1]
  have hs0 : SR cx' ⟨vals.size, params 0 args, bi⟩ ⟨vals, []⟩ w G0 := by
    refine ⟨fun t => ?_, rfl, rfl, fun b o v h => hs.dat b o v (by subst hG0; exact h), fun b B hB => ?_, fun b k hk => ?_, fun b x hx => ?_, fun b b' k hk hk' => hs.inj b b' k (hown0 b k hk).2 (hown0 b' k hk').2, by subst hcx; exact BelowM.refl, ⟨fun b o _ _ => by subst hcx; subst hG0; rfl, fun b o v h => by subst hcx; subst hG0; exact h⟩, fun gg cs h => hagree0 (hs.glo gg cs (by subst hcx; exact h)) (.eptr cs), by subst hcx; rfl, fun b k h => ?_⟩
    · unfold St.get
      rw [look_params, if_pos (Nat.zero_le _), Nat.sub_zero]
      cases ha : args[t]? with
      | none => exact .any _
      | some y =>
        have hlt := (List.getElem?_eq_some_iff.1 ha).1
        have hv : vals.getD t undef = vals[t]'(by omega) := by
          rw [Array.getD_eq_getD_getElem?]
          simp [show t < vals.size by omega]
        rw [hv]
        exact hagree0 (hvals t y _ ha (by simp [show t < vals.size by omega])) (men3_ok (hcl y (List.mem_of_getElem? ha)))
    · have hD := has_of hB
      have h1 := hs.bx b B (hbil b B hB)
      have hmB := mbx_look hbc b B hB
      cases B with
      | var cs =>
        obtain ⟨k, ty, vs, e1, e2, e3, e4, e5, e6⟩ := h1
        exact ⟨k, ty, vs, by subst hG0; simp [hD, e1], .inr (hmay' b k hD (hs.own_var e1)), e3, e4, fun i x v hx hv => hagree0 (e5 i x v hx hv) (mens2_ok hmB x (List.mem_of_getElem? hx)), fun o => by subst hG0; exact e6 o⟩
      | lst e sz xs =>
        obtain ⟨hh, us, e1, e2, e3, e4, e5⟩ := h1
        exact ⟨hh, us, by subst hG0; simp [hD, e1], e2, ⟨e3.1, fun k hk => .inr (hmay' b k hD ((hs.own_lst e1).trans hk))⟩, by subst hG0; exact e4, fun k hk o ho => by subst hG0; exact e5 k hk o ho⟩
      | iter s0 pos =>
        obtain ⟨k, e1, e2, e3, e4⟩ := h1
        exact ⟨k, by subst hG0; simp [hD, e1], .inr (hmay' b k hD (hs.own_var e1)), e3, fun o => by subst hG0; exact e4 o⟩
    · have hD : has bi b = true := by
        subst hG0
        by_cases c : has bi b = true
        · exact c
        · simp [c] at hk
      have hk0 : G.blk b = some k := by subst hG0; simpa [hD] using hk
      obtain ⟨⟨cs, h1, hcb⟩, _⟩ := hs.gb b k hk0
      refine ⟨⟨cs, hbih b _ h1 hD, hcb⟩, fun k' hk' => ?_⟩
      have hi : inN ln b = true := by
        subst hcx
        by_cases c : inN ln b = true
        · exact c
        · simp [c] at hk'
      rw [hlend b hi, hk0] at hk'
      exact (Option.some.inj hk').symm
    · have hD : has bi b = true := by
        subst hG0
        by_cases c : has bi b = true
        · exact c
        · simp [c] at hx
      have hx0 : G.ls b = some x := by subst hG0; simpa [hD] using hx
      obtain ⟨e, sz, xs, h1⟩ := hs.gl b x hx0
      exact ⟨e, sz, xs, hbih b _ h1 hD⟩
    · subst hcx
      by_cases c : inN ln b = true
      · exact inN_mem c
      · simp [c] at h
  have hbase : cx.base ≤ w.heap.size := hs.basele
  refine Calls.mono (hc w vals G0 cx' (by subst hcx; rfl) (by subst hcx; rfl) hsz hs0) ?_
  rintro e w' ⟨v, G2, rfl, h2⟩
  have hcb : cx'.base = w.heap.size := by subst hcx; rfl
  have hw0 : cx'.w0 = w := by subst hcx; rfl
  have hd0 : cx'.dat0 = G.dat := by subst hcx; rfl
  have hdle : ∀ b o u, G.dat b o = some u → G2.dat b o = some u := fun b o u hu => h2.low.2 b o u (by rw [hd0]; exact hu)
  have hdat : ∀ b o, b < w.heap.size → ¬ cx'.may b → G2.dat b o = G.dat b o := fun b o hb hm => by
    have := h2.low.1 b o (by rw [hcb]; exact hb) hm
    rw [hd0] at this
    exact this
  have hblock : ∀ k, k < w.heap.size → ¬ cx'.may k → w'.heap[k]? = w.heap[k]? := fun k hk hm => by
    have := h2.bel.block k (by rw [hcb]; exact hk) hm
    rw [hw0] at this
    exact this
  have hnm : ∀ b k, has bx' b = true → G.own b = some k → ¬ cx'.may k := fun b k hD hk hm => by
    obtain ⟨b0, h3, h4⟩ := hmay k hm
    have := hs.inj b b0 k hk h4
    subst this
    rw [disj_ok hd1 b hD] at h3
    cases h3
  have hmine : ∀ k, cx'.mine k → cx.mine k := fun k hk => by
    rcases hk with h | h
    · rw [hcb] at h; exact .inl (by omega)
    · obtain ⟨b, h3, h4⟩ := hmay k h
      exact (hs.own_lt h4).1
  obtain ⟨G', hG⟩ : ∃ G' : Gh, G' = ⟨G2.dat, fun b => if has bo b = true then G2.blk b else if has bx' b = true then G.blk b else none, fun b => if has bo b = true then G2.ls b else if has bx' b = true then G.ls b else none⟩ := ⟨_, rfl⟩
  have hnbo : ∀ b, has bx' b = true → has bo b = false := fun b hb => by
    cases hh : has bo b with
    | false => rfl
    | true => rw [disj_ok hd2 b hh] at hb; cases hb
  have hle2 : G2.Le G' := by
    subst hG
    refine ⟨fun _ _ _ h => h, fun b k hb => ?_, fun b sz xs hh hb => ⟨[], hh, ?_, fun _ => rfl⟩⟩
    · obtain ⟨⟨cs, h1, _⟩, _⟩ := h2.gb b k hb
      simp only [has_of h1, if_true]; exact hb
    · obtain ⟨e, sz', xs', h1⟩ := h2.gl b _ hb
      simp only [has_of h1, if_true, List.append_nil]; exact hb
  have hleG : G.Le G' := by
    refine ⟨fun b o u hu => by subst hG; exact hdle b o u hu, fun b k hk => ?_, fun b sz xs hh hk => ⟨[], hh, ?_, fun _ => rfl⟩⟩
    · obtain ⟨⟨B, hB, _⟩, _⟩ := hs.gb b k hk
      rcases hall b (has_of hB) with h | h
      · subst hG; simp [hnbo b h, h, hk]
      · obtain ⟨h3, cs, h4⟩ := klOk_ok hkb b h
        obtain ⟨k2, _, _, h5, _⟩ := h2.bx b _ h4
        have h6 := (h2.gb b k2 h5).2 k (by rw [hlend b h3]; exact hk)
        subst hG
        simp only [has_of h4, if_true]
        rw [h5, h6]
    · rw [List.append_nil]
      obtain ⟨e, sz', xs', hB⟩ := hs.gl b _ hk
      rcases hall b (has_of hB) with h | h
      · subst hG; simp [hnbo b h, h, hk]
      · obtain ⟨h3, cs, h4⟩ := klOk_ok hkb b h
        obtain ⟨cs', h5⟩ := lnVars_ok hln b h3
        rw [hbil b _ h5] at hB
        cases hB
  have hagree : ∀ {x : AV} {v : Value}, RA G x v → RA G' x v := fun hx => hx.mono hleG
  have hownb : ∀ b, has bo b = true → G'.own b = G2.own b := fun b hb => by subst hG; simp [Gh.own, hb]
  have hownx : ∀ b, has bo b = false → has bx' b = true → G'.own b = G.own b := fun b hb hx => by subst hG; simp [Gh.own, hb, hx]
  have hownn : ∀ b, has bo b = false → has bx' b = false → G'.own b = none := fun b hb hx => by subst hG; simp [Gh.own, hb, hx]
  have hapart : ∀ b b' k, has bx' b' = true → G2.own b = some k → G.own b' = some k → False := fun b b' k hx h3 h4 => by
    rcases (h2.own_lt h3).1 with h | h
    · rw [hcb] at h
      have := (hs.own_lt h4).2
      omega
    · exact hnm b' k hx h4 h
  have h0 : SR cx ⟨s.n, s.tm, bo ++ bx'⟩ a w' G' := by
    refine ⟨fun t => hagree (hs.tm t), hs.sz, hs.df, fun b o u hu => h2.dat b o u (by subst hG; exact hu), fun b B hB => ?_, fun b k hk => ?_, fun b x hx => ?_, fun b b' k hk hk' => ?_, ?_, ⟨fun b o hb hm => ?_, fun b o u hu => by subst hG; exact hdle b o u (hs.low.2 b o u hu)⟩, fun gg cs h => hagree (hs.glo gg cs h), hs.bas⟩
    · rw [look_append] at hB
      cases hl : look bo b with
      | some B0 =>
        rw [hl] at hB
        obtain rfl := Option.some.inj hB
        have h1 := h2.bx b B0 hl
        have hD := has_of hl
        cases B0 with
        | var cs =>
          obtain ⟨k, ty, vs, e1, e2, e3, e4, e5, e6⟩ := h1
          exact ⟨k, ty, vs, hle2.blk b k e1, hmine k e2, e3, e4, fun i x v hx hv => (e5 i x v hx hv).mono hle2, fun o => by subst hG; exact e6 o⟩
        | lst e sz xs =>
          obtain ⟨hh, us, e1, e2, e3, e4, e5⟩ := h1
          exact ⟨hh, us, by subst hG; simp [hD, e1], e2, ⟨e3.1, fun k hk => hmine k (e3.2 k hk)⟩, by subst hG; exact e4, fun k hk o ho => by subst hG; exact e5 k hk o ho⟩
        | iter s0 pos =>
          obtain ⟨k, e1, e2, e3, e4⟩ := h1
          exact ⟨k, hle2.blk b k e1, hmine k e2, e3, fun o => by subst hG; exact e4 o⟩
      | none =>
        rw [hl] at hB
        have hB : look bx' b = some B := hB
        have hD := has_of hB
        have hDo := hnbo b hD
        have h1 := hs.bx b B (hbxl b B hB)
        cases B with
        | var cs =>
          obtain ⟨k, ty, vs, e1, e2, e3, e4, e5, e6⟩ := h1
          have hk := hs.own_var e1
          have hlt := (hs.own_lt hk).2
          have hn := hnm b k hD hk
          exact ⟨k, ty, vs, by subst hG; simp [hDo, hD, e1], e2, by rw [hblock k hlt hn]; exact e3, e4, fun i x v hx hv => hagree (e5 i x v hx hv), fun o => by subst hG; show G2.dat k o = none; rw [hdat k o hlt hn]; exact e6 o⟩
        | lst e sz xs =>
          obtain ⟨hh, us, e1, e2, e3, e4, e5⟩ := h1
          refine ⟨hh, us, by subst hG; simp [hDo, hD, e1], e2, e3.congr (fun k hk => ?_), by subst hG; exact e4.mono hdle, fun k hk o ho => ?_⟩
          · have h3 := (hs.own_lst e1).trans hk
            exact hblock k (hs.own_lt h3).2 (hnm b k hD h3)
          · have h3 := (hs.own_lst e1).trans hk
            subst hG
            show G2.dat k o = none
            rw [hdat k o (hs.own_lt h3).2 (hnm b k hD h3)]
            exact e5 k hk o ho
        | iter s0 pos =>
          obtain ⟨k, e1, e2, e3, e4⟩ := h1
          have hk := hs.own_var e1
          have hlt := (hs.own_lt hk).2
          have hn := hnm b k hD hk
          exact ⟨k, by subst hG; simp [hDo, hD, e1], e2, by rw [hblock k hlt hn]; exact e3, fun o => by subst hG; show G2.dat k o = none; rw [hdat k o hlt hn]; exact e4 o⟩
    · show (∃ B, look (bo ++ bx') b = some B ∧ B.blk = true) ∧ _
      rw [look_append]
      cases c : has bo b with
      | true =>
        have hk2 : G2.blk b = some k := by subst hG; simpa [c] using hk
        obtain ⟨⟨cs, h1, hcb⟩, h3⟩ := h2.gb b k hk2
        rw [h1]
        refine ⟨⟨cs, rfl, hcb⟩, fun k' hk' => ?_⟩
        have hi : inN ln b = true := by
          rcases lnNew_ok hnw b c with h | h
          · exact h
          · have := inN_ok (hs.bas.2 b k' hk')
            rw [this] at h; cases h
        obtain ⟨cs0, h4⟩ := lnVars_ok hln b hi
        obtain ⟨k0, _, _, h5, _⟩ := hs.bx b _ (hbil b _ h4)
        have h6 := (hs.gb b k0 h5).2 k' hk'
        have h7 := h3 k0 (by rw [hlend b hi]; exact h5)
        omega
      | false =>
        rw [no_has c]
        have hx : has bx' b = true := by
          cases hh : has bx' b with
          | true => rfl
          | false => subst hG; simp [c, hh] at hk
        have hk2 : G.blk b = some k := by subst hG; simpa [c, hx] using hk
        obtain ⟨⟨cs, h1, hcb⟩, h3⟩ := hs.gb b k hk2
        exact ⟨⟨cs, hbxh b _ h1 hx, hcb⟩, h3⟩
    · show ∃ e sz xs, look (bo ++ bx') b = some (.lst e sz xs)
      rw [look_append]
      cases c : has bo b with
      | true =>
        have hk2 : G2.ls b = some x := by subst hG; simpa [c] using hx
        obtain ⟨e, sz, xs, h1⟩ := h2.gl b x hk2
        rw [h1]
        exact ⟨e, sz, xs, rfl⟩
      | false =>
        rw [no_has c]
        have hxx : has bx' b = true := by
          cases hh : has bx' b with
          | true => rfl
          | false => subst hG; simp [c, hh] at hx
        have hk2 : G.ls b = some x := by subst hG; simpa [c, hxx] using hx
        obtain ⟨e, sz, xs, h1⟩ := hs.gl b x hk2
        exact ⟨e, sz, xs, hbxh b _ h1 hxx⟩
    · cases c : has bo b with
      | true =>
        rw [hownb b c] at hk
        cases c' : has bo b' with
        | true => rw [hownb b' c'] at hk'; exact h2.inj b b' k hk hk'
        | false =>
          cases x' : has bx' b' with
          | true => rw [hownx b' c' x'] at hk'; exact (hapart b b' k x' hk hk').elim
          | false => rw [hownn b' c' x'] at hk'; cases hk'
      | false =>
        cases x : has bx' b with
        | false => rw [hownn b c x] at hk; cases hk
        | true =>
          rw [hownx b c x] at hk
          cases c' : has bo b' with
          | true => rw [hownb b' c'] at hk'; exact (hapart b' b k x hk' hk).elim
          | false =>
            cases x' : has bx' b' with
            | true => rw [hownx b' c' x'] at hk'; exact hs.inj b b' k hk hk'
            | false => rw [hownn b' c' x'] at hk'; cases hk'
    · have hb2 := h2.bel
      refine ⟨?_, ?_, ?_, ?_, fun k hk hm => ?_⟩
      · rw [hb2.os, hw0]; exact hs.bel.os
      · rw [hb2.tape, hw0]; exact hs.bel.tape
      · rw [hb2.output, hw0]; exact hs.bel.output
      · have := hb2.size; rw [hw0] at this; exact Nat.le_trans hs.bel.size this
      · refine (hblock k (by omega) fun h => ?_).trans (hs.bel.block k hk hm)
        obtain ⟨b, h3, h4⟩ := hmay k h
        rcases (hs.own_lt h4).1 with h5 | h5
        · omega
        · exact hm h5
    · subst hG
      show G2.dat b o = _
      rw [hdat b o (by omega) (fun h => by
        obtain ⟨b0, h3, h4⟩ := hmay b h
        rcases (hs.own_lt h4).1 with h5 | h5
        · omega
        · exact hm h5)]
      exact hs.low.1 b o hb hm
  have := h0.put (d := d) (x := r) (v := v) hd ((h2.tm 0).mono hle2)
  rw [ho]
  exact hK _ _ G' this
theorem OpOk.alike {o : Oper} {s s1 s2 : St} (h : OpOk P g o s s1) (ha : Alike s1 s2) : OpOk P g o s s2 :=
  fun cx a w G hP hg hs K Q hK => h cx a w G hP hg hs K Q fun a' w' G' h' => hK a' w' G' (h'.alike ha)
end
theorem dropB_look {bi : List (Nat × Box)} {b : Nat} (hb : has bi b = false) : ∀ (l : List (Nat × Box)) (seen : List Nat), inN seen b = false → look (dropB bi seen l) b = look l b
  | [], seen, h => rfl
  | (k, C) :: l, seen, h => by
    simp only [dropB]
    by_cases e : k = b
    · subst e
      rw [h, hb]
      simp only [Bool.or_false, look_cons, if_true]
    · have hs : inN (k :: seen) b = false := by
        rw [inN_cons, h, Bool.or_false]
        cases hq : Nat.beq k b with
        | false => rfl
        | true => exact absurd (Nat.eq_of_beq_eq_true hq) e
      rw [look_cons, if_neg e]
      cases hk : inN seen k || has bi k with
      | true => exact dropB_look hb l _ hs
      | false => simp only [look_cons, if_neg e]; exact dropB_look hb l _ hs
/-- An operation that is as its record says, as long as something holds. -/
inductive RecOkI (P : Program) (g : Gb) (Inv : St → Prop) (ops : Array Oper) (o : Oper) (r : Rec) : Prop
  | old (h : RecOk P g ops o r)
  | loose (hg : o.guard = none) (hd : o.dst = r.d) (h : ∀ s, Inv s → r.Met s → OpOk P g o s (r.app s))
section
variable {P : Program} {g : Gb} {s : St}
end
inductive RecsI (P : Program) (g : Gb) (Inv : St → Prop) (ops : Array Oper) : List Oper → St → List Rec → St → Prop
  | nil (s : St) : RecsI P g Inv ops [] s [] s
  | cons {o : Oper} {l : List Oper} {s s' : St} {r : Rec} {rs : List Rec} (h : RecOkI P g Inv ops o r) (hm : r.Met s) (t : RecsI P g Inv ops l (r.app s) rs s') : RecsI P g Inv ops (o :: l) s (r :: rs) s'
section
variable {P : Program} {g : Gb} {Inv : St → Prop} {ops : Array Oper}
theorem RecsI.get {l : List Oper} {s s' : St} {rs : List Rec} (h : RecsI P g Inv ops l s rs s') : rs.length = l.length ∧ (∀ (i : Nat) o r, l[i]? = some o → rs[i]? = some r → RecOkI P g Inv ops o r) ∧ Canon s rs ∧ ∀ k, stOf (fun _ => true) k rs s = s' := by
  induction h with
  | nil s => exact ⟨rfl, fun i o r h => by simp at h, trivial, fun k => rfl⟩
  | cons h hm t ih =>
    obtain ⟨e1, e2, e3, e4⟩ := ih
    refine ⟨by simp [e1], fun i o r ho hr => ?_, ⟨hm, e3⟩, fun k => ?_⟩
    · cases i with
      | zero => simp at ho hr; subst ho; subst hr; exact h
      | succ i => exact e2 i o r (by simpa using ho) (by simpa using hr)
    · simp only [stOf, if_true]; exact e4 (k + 1)
/-- What is left of such a region. -/
def DrI (P : Program) (g : Gb) (Inv : St → Prop) (ops : Array Oper) (l : List Oper) (s : St) (Θ : List Rec → St → Prop) : Prop := ∃ rs s', RecsI P g Inv ops l s rs s' ∧ Θ rs s'
theorem DrI.nil {s : St} {Θ : List Rec → St → Prop} (h : Θ [] s) : DrI P g Inv ops [] s Θ := ⟨[], s, .nil s, h⟩
theorem DrI.cons {o : Oper} {l : List Oper} {s : St} {r : Rec} {Θ : List Rec → St → Prop} (h : RecOkI P g Inv ops o r) (hm : r.Met s) (t : DrI P g Inv ops l (r.app s) (fun rs => Θ (r :: rs))) : DrI P g Inv ops (o :: l) s Θ :=
  let ⟨rs, s', h1, h2⟩ := t; ⟨r :: rs, s', .cons h hm h1, h2⟩
/-- One operation by a rule of the plain kind. -/
theorem DrI.step {o : Oper} {l : List Oper} {s : St} {Θ : List Rec → St → Prop} (h : Dr P g ops [o] s (fun rs s' => DrI P g Inv ops l s' (fun rs' => Θ (rs ++ rs')))) : DrI P g Inv ops (o :: l) s Θ := by
  obtain ⟨rs, s', h1, rs', s2, h2, h3⟩ := h
  cases h1 with
  | cons h hm t =>
    cases t
    exact ⟨_, s2, .cons (.old h) hm h2, h3⟩
end
section
variable {E : Env} {n : Nat} {tm : List (Nat × AV)} {bx : List (Nat × Box)} {ops : Array Oper} {l : List Oper} {d : Tmp} {ty : TypeId} {pos : String} {after : Array Edge}
end
section
variable {E : Env} {n : Nat} {tm : List (Nat × AV)} {bx : List (Nat × Box)} {ops : Array Oper} {l : List Oper} {d : Tmp} {ty : TypeId} {pos : String} {after : Array Edge}
end
end Go.Proofs.YtlcmnhocicehmaaDoor.Vm
