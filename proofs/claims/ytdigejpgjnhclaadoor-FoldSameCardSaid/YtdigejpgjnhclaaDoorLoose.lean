/- Regions whose order is drawn: a call to which boxes are lent beside reads of what the call leaves as it is. Conditions: none. -/
import Derived.Test.YtdigejpgjnhclaaDoorPick
namespace Go.Proofs.YtdigejpgjnhclaaDoor.Vm
open Go Go.RowKit
set_option linter.unusedVariables false
set_option linter.unusedSimpArgs false
section
variable {P : Program} {g : Gb} {s s1 s' : St} {cx : Cx} {a : Act} {w : World} {G : Gh}
/-- A call to which boxes are lent that are all handed back: all that was known stays known. -/
theorem OpOk.lendS {o : Oper} {d : Tmp} {f : FuncId} {args : List AV} {bi : List (Nat × Box)} {r : AV} {bo bx' kb : List (Nat × Box)} {ln : List Nat} (ho : o.dst = some d)
    (hc : FnLOk P ⟨g.fn, ln⟩ f args bi r bo) (hb : ∃ fn, P.funcs[f]? = some fn)
    (hrun : ∀ (cx : Cx) (a : Act) (w : World) (G : Gh), cx.P = P → cx.g = g → SR cx s a w G → ∃ vals : Array Value, (execOp a.eval o).run P w = .ok (.enter f vals) w ∧ vals.size = args.length ∧ ∀ (i : Nat) x v, args[i]? = some x → vals[i]? = some v → RA G x v)
    (hcl : ∀ x ∈ args, men3 bi x = true) (hbi : BxIn s.bx bi) (hbc : mbx bi bi = true) (hln : lnVars bi ln = true) (hbx : BxIn s.bx bx') (hd1 : disj bi bx' = true) (hd2 : disj bx' bo = true) (hnw : lnNew ln g.ln bo = true) (hkb : klOk ln bo kb = true)
    (hall : ∀ b, has s.bx b = true → has bx' b = true ∨ has kb b = true) (hd : d < s.n) :
    OpOk P g o s ⟨s.n, (d, r) :: s.tm, bo ++ bx'⟩ := by
  intro cx a w G hP hg hs K Q hK
  obtain ⟨vals, hex, hsz, hvals⟩ := hrun cx a w G hP hg hs
  unfold Oper.wp
  rw [hex]
  subst hP
  subst hg
  have hbil : ∀ b B, look bi b = some B → look s.bx b = some B := fun b B h => by
    rcases hbi.get b with e | e
    · rw [e] at h; cases h
    · rw [← e]; exact h
  have hbxl : ∀ b B, look bx' b = some B → look s.bx b = some B := fun b B h => by
    rcases hbx.get b with e | e
    · rw [e] at h; cases h
    · rw [← e]; exact h
  have hbxh : ∀ b B, look s.bx b = some B → has bx' b = true → look bx' b = some B := fun b B h hh => by
    obtain ⟨C, hC⟩ := of_has hh
    rw [hbxl b C hC] at h
    obtain rfl := Option.some.inj h
    exact hC
  have hbih : ∀ b B, look s.bx b = some B → has bi b = true → look bi b = some B := fun b B h hh => by
    obtain ⟨C, hC⟩ := of_has hh
    rw [hbil b C hC] at h
    obtain rfl := Option.some.inj h
    exact hC
  obtain ⟨G0, hG0⟩ : ∃ G0 : Gh, G0 = ⟨G.dat, fun b => if has bi b = true then G.blk b else none, fun b => if has bi b = true then G.ls b else none⟩ := ⟨_, rfl⟩
  have hown0 : ∀ b k, G0.own b = some k → has bi b = true ∧ G.own b = some k := fun b k hk => by
    subst hG0
    unfold Gh.own at hk ⊢
    by_cases c : has bi b = true
    · exact ⟨c, by simpa [c] using hk⟩
    · simp [c] at hk
  have hown0' : ∀ b k, has bi b = true → G.own b = some k → G0.own b = some k := fun b k hD hk => by
    subst hG0
    unfold Gh.own at hk ⊢
    simpa [hD] using hk
  have hagree0 : ∀ {x : AV} {v : Value}, RA G x v → Mentions (has bi) x → RA G0 x v := fun hx hm =>
    hx.agree (G' := G0) (D := has bi) (fun _ _ _ h => by subst hG0; exact h) (fun b k hD hk => by subst hG0; simp [hD, hk]) (fun b x hD hk => by subst hG0; simp [hD, hk]) hm
  obtain ⟨cx', hcx⟩ : ∃ cx' : Cx, cx' = ⟨cx.P, w.heap.size, w, G.dat, ⟨cx.g.fn, ln⟩, fun b => if inN ln b = true then G0.blk b else none, fun k => ∃ b, G0.own b = some k⟩ := ⟨_, rfl⟩
  have hmay : ∀ k, cx'.may k → ∃ b, has bi b = true ∧ G.own b = some k := fun k hk => by
    subst hcx
    obtain ⟨b, hb⟩ := hk
    exact ⟨b, hown0 b k hb⟩
  have hmay' : ∀ b k, has bi b = true → G.own b = some k → cx'.may k := fun b k hD hk => by
    subst hcx
    exact ⟨b, hown0' b k hD hk⟩
  have hlend : ∀ b, inN ln b = true → cx'.lend b = G.blk b := fun b hb => by
    obtain ⟨cs, h1⟩ := lnVars_ok hln b hb
    subst hcx
    subst hG0
    simp [hb, has_of h1]
  have hs0 : SR cx' ⟨vals.size, params 0 args, bi⟩ ⟨vals, []⟩ w G0 := by
    refine ⟨fun t => ?_, rfl, rfl, fun b o v h => hs.dat b o v (by subst hG0; exact h), fun b B hB => ?_, fun b k hk => ?_, fun b x hx => ?_, fun b b' k hk hk' => hs.inj b b' k (hown0 b k hk).2 (hown0 b' k hk').2, by subst hcx; exact BelowM.refl, ⟨fun b o _ _ => by subst hcx; subst hG0; rfl, fun b o v h => by subst hcx; subst hG0; exact h⟩, fun gg cs h => hagree0 (hs.glo gg cs (by subst hcx; exact h)) (.eptr cs), by subst hcx; rfl, fun b k h => ?_⟩
    · unfold St.get
      rw [look_params, if_pos (Nat.zero_le _), Nat.sub_zero]
      cases ha : args[t]? with
      | none => exact .any _
      | some y =>
        have hlt := (List.getElem?_eq_some_iff.1 ha).1
        have hv : vals.getD t undef = vals[t]'(by omega) := by
          rw [Array.getD_eq_getD_getElem?]
          simp [show t < vals.size by omega]
        rw [hv]
        exact hagree0 (hvals t y _ ha (by simp [show t < vals.size by omega])) (men3_ok (hcl y (List.mem_of_getElem? ha)))
    · have hD := has_of hB
      have h1 := hs.bx b B (hbil b B hB)
      have hmB := mbx_look hbc b B hB
      cases B with
      | var cs =>
        obtain ⟨k, ty, vs, e1, e2, e3, e4, e5, e6⟩ := h1
        exact ⟨k, ty, vs, by subst hG0; simp [hD, e1], .inr (hmay' b k hD (hs.own_var e1)), e3, e4, fun i x v hx hv => hagree0 (e5 i x v hx hv) (mens2_ok hmB x (List.mem_of_getElem? hx)), fun o => by subst hG0; exact e6 o⟩
      | lst e sz xs =>
        obtain ⟨hh, us, e1, e2, e3, e4, e5⟩ := h1
        exact ⟨hh, us, by subst hG0; simp [hD, e1], e2, ⟨e3.1, fun k hk => .inr (hmay' b k hD ((hs.own_lst e1).trans hk))⟩, by subst hG0; exact e4, fun k hk o ho => by subst hG0; exact e5 k hk o ho⟩
      | iter s0 pos =>
        obtain ⟨k, e1, e2, e3, e4⟩ := h1
        exact ⟨k, by subst hG0; simp [hD, e1], .inr (hmay' b k hD (hs.own_var e1)), e3, fun o => by subst hG0; exact e4 o⟩
    · have hD : has bi b = true := by
        subst hG0
        by_cases c : has bi b = true
        · exact c
        · simp [c] at hk
      have hk0 : G.blk b = some k := by subst hG0; simpa [hD] using hk
      obtain ⟨⟨cs, h1, hcb⟩, _⟩ := hs.gb b k hk0
      refine ⟨⟨cs, hbih b _ h1 hD, hcb⟩, fun k' hk' => ?_⟩
      have hi : inN ln b = true := by
        subst hcx
        by_cases c : inN ln b = true
        · exact c
        · simp [c] at hk'
      rw [hlend b hi, hk0] at hk'
      exact (Option.some.inj hk').symm
    · have hD : has bi b = true := by
        subst hG0
        by_cases c : has bi b = true
        · exact c
        · simp [c] at hx
      have hx0 : G.ls b = some x := by subst hG0; simpa [hD] using hx
      obtain ⟨e, sz, xs, h1⟩ := hs.gl b x hx0
      exact ⟨e, sz, xs, hbih b _ h1 hD⟩
    · subst hcx
      by_cases c : inN ln b = true
      · exact inN_mem c
      · simp [c] at h
  have hbase : cx.base ≤ w.heap.size := hs.basele
  refine Calls.mono (hc w vals G0 cx' (by subst hcx; rfl) (by subst hcx; rfl) hsz hs0) ?_
  rintro e w' ⟨v, G2, rfl, h2⟩
  have hcb : cx'.base = w.heap.size := by subst hcx; rfl
  have hw0 : cx'.w0 = w := by subst hcx; rfl
  have hd0 : cx'.dat0 = G.dat := by subst hcx; rfl
  have hdle : ∀ b o u, G.dat b o = some u → G2.dat b o = some u := fun b o u hu => h2.low.2 b o u (by rw [hd0]; exact hu)
  have hdat : ∀ b o, b < w.heap.size → ¬ cx'.may b → G2.dat b o = G.dat b o := fun b o hb hm => by
    have := h2.low.1 b o (by rw [hcb]; exact hb) hm
    rw [hd0] at this
    exact this
  have hblock : ∀ k, k < w.heap.size → ¬ cx'.may k → w'.heap[k]? = w.heap[k]? := fun k hk hm => by
    have := h2.bel.block k (by rw [hcb]; exact hk) hm
    rw [hw0] at this
    exact this
  have hnm : ∀ b k, has bx' b = true → G.own b = some k → ¬ cx'.may k := fun b k hD hk hm => by
    obtain ⟨b0, h3, h4⟩ := hmay k hm
    have := hs.inj b b0 k hk h4
    subst this
    rw [disj_ok hd1 b hD] at h3
    cases h3
  have hmine : ∀ k, cx'.mine k → cx.mine k := fun k hk => by
    rcases hk with h | h
    · rw [hcb] at h; exact .inl (by omega)
    · obtain ⟨b, h3, h4⟩ := hmay k h
      exact (hs.own_lt h4).1
  obtain ⟨G', hG⟩ : ∃ G' : Gh, G' = ⟨G2.dat, fun b => if has bo b = true then G2.blk b else if has bx' b = true then G.blk b else none, fun b => if has bo b = true then G2.ls b else if has bx' b = true then G.ls b else none⟩ := ⟨_, rfl⟩
  have hnbo : ∀ b, has bx' b = true → has bo b = false := fun b hb => by
    cases hh : has bo b with
    | false => rfl
    | true => rw [disj_ok hd2 b hh] at hb; cases hb
  have hle2 : G2.Le G' := by
    subst hG
    refine ⟨fun _ _ _ h => h, fun b k hb => ?_, fun b sz xs hh hb => ⟨[], hh, ?_, fun _ => rfl⟩⟩
    · obtain ⟨⟨cs, h1, _⟩, _⟩ := h2.gb b k hb
      simp only [has_of h1, if_true]; exact hb
    · obtain ⟨e, sz', xs', h1⟩ := h2.gl b _ hb
      simp only [has_of h1, if_true, List.append_nil]; exact hb
  have hleG : G.Le G' := by
    refine ⟨fun b o u hu => by subst hG; exact hdle b o u hu, fun b k hk => ?_, fun b sz xs hh hk => ⟨[], hh, ?_, fun _ => rfl⟩⟩
    · obtain ⟨⟨B, hB, _⟩, _⟩ := hs.gb b k hk
      rcases hall b (has_of hB) with h | h
      · subst hG; simp [hnbo b h, h, hk]
      · obtain ⟨h3, cs, h4⟩ := klOk_ok hkb b h
        obtain ⟨k2, _, _, h5, _⟩ := h2.bx b _ h4
        have h6 := (h2.gb b k2 h5).2 k (by rw [hlend b h3]; exact hk)
        subst hG
        simp only [has_of h4, if_true]
        rw [h5, h6]
    · rw [List.append_nil]
      obtain ⟨e, sz', xs', hB⟩ := hs.gl b _ hk
      rcases hall b (has_of hB) with h | h
      · subst hG; simp [hnbo b h, h, hk]
      · obtain ⟨h3, cs, h4⟩ := klOk_ok hkb b h
        obtain ⟨cs', h5⟩ := lnVars_ok hln b h3
        rw [hbil b _ h5] at hB
        cases hB
  have hagree : ∀ {x : AV} {v : Value}, RA G x v → RA G' x v := fun hx => hx.mono hleG
  have hownb : ∀ b, has bo b = true → G'.own b = G2.own b := fun b hb => by subst hG; simp [Gh.own, hb]
  have hownx : ∀ b, has bo b = false → has bx' b = true → G'.own b = G.own b := fun b hb hx => by subst hG; simp [Gh.own, hb, hx]
  have hownn : ∀ b, has bo b = false → has bx' b = false → G'.own b = none := fun b hb hx => by subst hG; simp [Gh.own, hb, hx]
  have hapart : ∀ b b' k, has bx' b' = true → G2.own b = some k → G.own b' = some k → False := fun b b' k hx h3 h4 => by
    rcases (h2.own_lt h3).1 with h | h
    · rw [hcb] at h
      have := (hs.own_lt h4).2
      omega
    · exact hnm b' k hx h4 h
  have h0 : SR cx ⟨s.n, s.tm, bo ++ bx'⟩ a w' G' := by
    refine ⟨fun t => hagree (hs.tm t), hs.sz, hs.df, fun b o u hu => h2.dat b o u (by subst hG; exact hu), fun b B hB => ?_, fun b k hk => ?_, fun b x hx => ?_, fun b b' k hk hk' => ?_, ?_, ⟨fun b o hb hm => ?_, fun b o u hu => by subst hG; exact hdle b o u (hs.low.2 b o u hu)⟩, fun gg cs h => hagree (hs.glo gg cs h), hs.bas⟩
    · rw [look_append] at hB
      cases hl : look bo b with
      | some B0 =>
        rw [hl] at hB
        obtain rfl := Option.some.inj hB
        have h1 := h2.bx b B0 hl
        have hD := has_of hl
        cases B0 with
        | var cs =>
          obtain ⟨k, ty, vs, e1, e2, e3, e4, e5, e6⟩ := h1
          exact ⟨k, ty, vs, hle2.blk b k e1, hmine k e2, e3, e4, fun i x v hx hv => (e5 i x v hx hv).mono hle2, fun o => by subst hG; exact e6 o⟩
        | lst e sz xs =>
          obtain ⟨hh, us, e1, e2, e3, e4, e5⟩ := h1
          exact ⟨hh, us, by subst hG; simp [hD, e1], e2, ⟨e3.1, fun k hk => hmine k (e3.2 k hk)⟩, by subst hG; exact e4, fun k hk o ho => by subst hG; exact e5 k hk o ho⟩
        | iter s0 pos =>
          obtain ⟨k, e1, e2, e3, e4⟩ := h1
          exact ⟨k, hle2.blk b k e1, hmine k e2, e3, fun o => by subst hG; exact e4 o⟩
      | none =>
        rw [hl] at hB
        have hB : look bx' b = some B := hB
        have hD := has_of hB
        have hDo := hnbo b hD
        have h1 := hs.bx b B (hbxl b B hB)
        cases B with
        | var cs =>
          obtain ⟨k, ty, vs, e1, e2, e3, e4, e5, e6⟩ := h1
          have hk := hs.own_var e1
          have hlt := (hs.own_lt hk).2
          have hn := hnm b k hD hk
          exact ⟨k, ty, vs, by subst hG; simp [hDo, hD, e1], e2, by rw [hblock k hlt hn]; exact e3, e4, fun i x v hx hv => hagree (e5 i x v hx hv), fun o => by subst hG; show G2.dat k o = none; rw [hdat k o hlt hn]; exact e6 o⟩
        | lst e sz xs =>
          obtain ⟨hh, us, e1, e2, e3, e4, e5⟩ := h1
          refine ⟨hh, us, by subst hG; simp [hDo, hD, e1], e2, e3.congr (fun k hk => ?_), by subst hG; exact e4.mono hdle, fun k hk o ho => ?_⟩
          · have h3 := (hs.own_lst e1).trans hk
            exact hblock k (hs.own_lt h3).2 (hnm b k hD h3)
          · have h3 := (hs.own_lst e1).trans hk
            subst hG
            show G2.dat k o = none
            rw [hdat k o (hs.own_lt h3).2 (hnm b k hD h3)]
            exact e5 k hk o ho
        | iter s0 pos =>
          obtain ⟨k, e1, e2, e3, e4⟩ := h1
          have hk := hs.own_var e1
          have hlt := (hs.own_lt hk).2
          have hn := hnm b k hD hk
          exact ⟨k, by subst hG; simp [hDo, hD, e1], e2, by rw [hblock k hlt hn]; exact e3, fun o => by subst hG; show G2.dat k o = none; rw [hdat k o hlt hn]; exact e4 o⟩
    · show (∃ B, look (bo ++ bx') b = some B ∧ B.blk = true) ∧ _
      rw [look_append]
      cases c : has bo b with
      | true =>
        have hk2 : G2.blk b = some k := by subst hG; simpa [c] using hk
        obtain ⟨⟨cs, h1, hcb⟩, h3⟩ := h2.gb b k hk2
        rw [h1]
        refine ⟨⟨cs, rfl, hcb⟩, fun k' hk' => ?_⟩
        have hi : inN ln b = true := by
          rcases lnNew_ok hnw b c with h | h
          · exact h
          · have := inN_ok (hs.bas.2 b k' hk')
            rw [this] at h; cases h
        obtain ⟨cs0, h4⟩ := lnVars_ok hln b hi
        obtain ⟨k0, _, _, h5, _⟩ := hs.bx b _ (hbil b _ h4)
        have h6 := (hs.gb b k0 h5).2 k' hk'
        have h7 := h3 k0 (by rw [hlend b hi]; exact h5)
        omega
      | false =>
        rw [no_has c]
        have hx : has bx' b = true := by
          cases hh : has bx' b with
          | true => rfl
          | false => subst hG; simp [c, hh] at hk
        have hk2 : G.blk b = some k := by subst hG; simpa [c, hx] using hk
        obtain ⟨⟨cs, h1, hcb⟩, h3⟩ := hs.gb b k hk2
        exact ⟨⟨cs, hbxh b _ h1 hx, hcb⟩, h3⟩
    · show ∃ e sz xs, look (bo ++ bx') b = some (.lst e sz xs)
      rw [look_append]
      cases c : has bo b with
      | true =>
        have hk2 : G2.ls b = some x := by subst hG; simpa [c] using hx
        obtain ⟨e, sz, xs, h1⟩ := h2.gl b x hk2
        rw [h1]
        exact ⟨e, sz, xs, rfl⟩
      | false =>
        rw [no_has c]
        have hxx : has bx' b = true := by
          cases hh : has bx' b with
          | true => rfl
          | false => subst hG; simp [c, hh] at hx
        have hk2 : G.ls b = some x := by subst hG; simpa [c, hxx] using hx
        obtain ⟨e, sz, xs, h1⟩ := hs.gl b x hk2
        exact ⟨e, sz, xs, hbxh b _ h1 hxx⟩
    · cases c : has bo b with
      | true =>
        rw [hownb b c] at hk
        cases c' : has bo b' with
        | true => rw [hownb b' c'] at hk'; exact h2.inj b b' k hk hk'
        | false =>
          cases x' : has bx' b' with
          | true => rw [hownx b' c' x'] at hk'; exact (hapart b b' k x' hk hk').elim
          | false => rw [hownn b' c' x'] at hk'; cases hk'
      | false =>
        cases x : has bx' b with
        | false => rw [hownn b c x] at hk; cases hk
        | true =>
          rw [hownx b c x] at hk
          cases c' : has bo b' with
          | true => rw [hownb b' c'] at hk'; exact (hapart b' b k x hk' hk).elim
          | false =>
            cases x' : has bx' b' with
            | true => rw [hownx b' c' x'] at hk'; exact hs.inj b b' k hk hk'
            | false => rw [hownn b' c' x'] at hk'; cases hk'
    · have hb2 := h2.bel
      refine ⟨?_, ?_, ?_, ?_, fun k hk hm => ?_⟩
      · rw [hb2.os, hw0]; exact hs.bel.os
      · rw [hb2.tape, hw0]; exact hs.bel.tape
      · rw [hb2.output, hw0]; exact hs.bel.output
      · have := hb2.size; rw [hw0] at this; exact Nat.le_trans hs.bel.size this
      · refine (hblock k (by omega) fun h => ?_).trans (hs.bel.block k hk hm)
        obtain ⟨b, h3, h4⟩ := hmay k h
        rcases (hs.own_lt h4).1 with h5 | h5
        · omega
        · exact hm h5
    · subst hG
      show G2.dat b o = _
      rw [hdat b o (by omega) (fun h => by
        obtain ⟨b0, h3, h4⟩ := hmay b h
        rcases (hs.own_lt h4).1 with h5 | h5
        · omega
        · exact hm h5)]
      exact hs.low.1 b o hb hm
  have := h0.put (d := d) (x := r) (v := v) hd ((h2.tm 0).mono hle2)
  rw [ho]
  exact hK _ _ G' this
theorem OpOk.alike {o : Oper} {s s1 s2 : St} (h : OpOk P g o s s1) (ha : Alike s1 s2) : OpOk P g o s s2 :=
  fun cx a w G hP hg hs K Q hK => h cx a w G hP hg hs K Q fun a' w' G' h' => hK a' w' G' (h'.alike ha)
end
theorem dropB_look {bi : List (Nat × Box)} {b : Nat} (hb : has bi b = false) : ∀ (l : List (Nat × Box)) (seen : List Nat), inN seen b = false → look (dropB bi seen l) b = look l b
  | [], seen, h => rfl
  | (k, C) :: l, seen, h => by
    simp only [dropB]
    by_cases e : k = b
    · subst e
      rw [h, hb]
      simp only [Bool.or_false, look_cons, if_true]
    · have hs : inN (k :: seen) b = false := by
        rw [inN_cons, h, Bool.or_false]
        cases hq : Nat.beq k b with
        | false => rfl
        | true => exact absurd (Nat.eq_of_beq_eq_true hq) e
      rw [look_cons, if_neg e]
      cases hk : inN seen k || has bi k with
      | true => exact dropB_look hb l _ hs
      | false => simp only [look_cons, if_neg e]; exact dropB_look hb l _ hs
/-- An operation that is as its record says, as long as something holds. -/
inductive RecOkI (P : Program) (g : Gb) (Inv : St → Prop) (ops : Array Oper) (o : Oper) (r : Rec) : Prop
  | old (h : RecOk P g ops o r)
  | loose (hg : o.guard = none) (hd : o.dst = r.d) (h : ∀ s, Inv s → r.Met s → OpOk P g o s (r.app s))
theorem stOf_inv {Inv : St → Prop} {S : Nat → Bool} : ∀ (rs : List Rec) (k : Nat) (s : St), Inv s → (∀ r ∈ rs, ∀ s, Inv s → Inv (r.app s)) → Inv (stOf S k rs s)
  | [], k, s, h, _ => h
  | r :: rs, k, s, h, hk => by
    simp only [stOf]
    refine stOf_inv rs (k + 1) _ ?_ (fun r' hr => hk r' (List.mem_cons_of_mem _ hr))
    split
    · exact hk r List.mem_cons_self s h
    · exact h
section
variable {P : Program} {g : Gb} {s : St}
theorem draw_anyI {Inv : St → Prop} {cx : Cx} {l : List Oper} {rs : List Rec} {Q : Exit → Act → World → Prop} (hP : cx.P = P) (hg : cx.g = g) (hlen : rs.length = l.length) (hrec : ∀ (i : Nat) o r, l[i]? = some o → rs[i]? = some r → RecOkI P g Inv l.toArray o r) (hinv : Inv s) (hkeep : ∀ r ∈ rs, ∀ s, Inv s → Inv (r.app s)) (hcan : Canon s rs)
    (hed : edgesOk 0 l = true) (hap : apartAll (masks [] l) rs 0 rs = true) (hQ : ∀ a w G, SR cx (stOf (fun _ => true) 0 rs s) a w G → Q .normal a w) :
    ∀ (fuel : Nat) (listed : Array Bool) (a : Act) (w : World) (G : Gh), listed.size = l.length → un (fun j => listed.getD j false) l.length ≤ fuel → Cl l.toArray (fun j => listed.getD j false) → SR cx (stOf (fun j => listed.getD j false) 0 rs s) a w G → wpAny P .any l.toArray Q fuel listed a w := by
  intro fuel
  have hready : ∀ listed : Array Bool, listed.size = l.length → ∀ i, i ∈ Region.ready .any l.toArray listed ↔ i < l.length ∧ listed.getD i false = false ∧ ∃ o, l[i]? = some o ∧ ∀ e ∈ o.after.toList, Region.binds .any e = true → listed.getD e.on false = true := by
    intro listed hsz i
    unfold Region.ready
    simp only [List.mem_filter, List.mem_range, List.size_toArray, Bool.and_eq_true]
    constructor
    · rintro ⟨h1, h2, h3⟩
      have hlt : i < listed.size := by omega
      refine ⟨h1, ?_, l[i], by simp [h1], fun e he hb => ?_⟩
      · simp [Array.getD, hlt] at h2 ⊢; exact h2
      · simp only [List.getElem?_toArray, List.getElem?_eq_getElem h1, Option.map_some, Option.getD_some] at h3
        rw [Array.all_eq_true_iff_forall_mem] at h3
        have := h3 e (by simpa using he)
        simpa [hb] using this
    · rintro ⟨h1, h2, o, h3, h4⟩
      have hlt : i < listed.size := by omega
      refine ⟨h1, ?_, ?_⟩
      · simp [Array.getD, hlt] at h2 ⊢; exact h2
      · simp only [List.getElem?_toArray, h3, Option.map_some, Option.getD_some]
        rw [Array.all_eq_true_iff_forall_mem]
        intro e he
        cases hb : Region.binds .any e with
        | false => simp
        | true => simp [h4 e (by simpa using he) hb]
  have hsome : ∀ listed : Array Bool, listed.size = l.length → Region.ready .any l.toArray listed = [] → ∀ i, i < l.length → listed.getD i false = true := by
    intro listed hsz hnil i
    induction i using Nat.strongRecOn with
    | _ i ih =>
      intro hi
      cases hS : listed.getD i false with
      | true => rfl
      | false =>
        have : i ∈ Region.ready .any l.toArray listed := (hready listed hsz i).2 ⟨hi, hS, l[i], by simp [hi], fun e he hb => by
          have := edgesOk_get l 0 hed i l[i] (by simp [hi]) e he hb
          exact ih e.on (by omega) (by omega)⟩
        rw [hnil] at this
        simp at this
  have hall : ∀ listed : Array Bool, listed.size = l.length → (∀ i, i < l.length → listed.getD i false = true) → ∀ a w G, SR cx (stOf (fun j => listed.getD j false) 0 rs s) a w G → Q .normal a w := by
    intro listed hsz hall a w G h
    refine hQ a w G (h.alike ⟨?_, fun t => ?_, fun b => ?_⟩)
    · rw [stOf_n, stOf_n]
    · exact stOf_t rs 0 s s rfl (fun i r hr _ => by
        have := (List.getElem?_eq_some_iff.1 hr).1
        exact hall (0 + i) (by omega))
    · exact stOf_b rs 0 s s rfl (fun i r hr _ => by
        have := (List.getElem?_eq_some_iff.1 hr).1
        exact hall (0 + i) (by omega))
  induction fuel with
  | zero =>
    intro listed a w G hsz hun hcl h
    have hfull := un_zero (Nat.le_zero.1 hun)
    refine ⟨?_, hall listed hsz hfull a w G h⟩
    cases hr : Region.ready .any l.toArray listed with
    | nil => rfl
    | cons i is =>
      have : i ∈ Region.ready .any l.toArray listed := by rw [hr]; simp
      obtain ⟨h1, h2, _⟩ := (hready listed hsz i).1 this
      rw [hfull i h1] at h2; cases h2
  | succ fuel ih =>
    intro listed a w G hsz hun hcl h
    refine ⟨fun hnil => hall listed hsz (hsome listed hsz hnil) a w G h, fun i hi => ?_⟩
    obtain ⟨h1, h2, o, h3, h4⟩ := (hready listed hsz i).1 hi
    obtain ⟨r, hr⟩ : ∃ r, rs[i]? = some r := ⟨rs[i]'(by omega), by simp [show i < rs.length by omega]⟩
    have hoa : l.toArray[i]? = some o := by simpa using h3
    have hrd := masks_ready hcl hoa h4
    have hmk := masks_cl hcl l [] (fun i o h => by simpa using h) (fun q i h => by simp at h)
    -- who touches what this operation touches
    have htouch : ∀ (j : Nat) q, rs[j]? = some q → touch r q = true → listed.getD j false = decide (j < i) := by
      intro j q hq ht
      by_cases c : i = j
      · subst c; rw [h2]; simp
      · have h5 := apartAll_get rs 0 hap i r hr
        rw [Nat.zero_add] at h5
        have h6 := apartRow_get rs 0 h5 j q hq (by omega) ht
        rw [Nat.zero_add] at h6
        by_cases c2 : j < i
        · rw [hrd j (h6.1 c2)]; simp [c2]
        · cases hS : listed.getD j false with
          | false => simp; omega
          | true =>
            have := hmk j i (h6.2 (by omega)) hS
            rw [h2] at this; cases this
    have hmet : r.Met (stOf (fun j => listed.getD j false) 0 rs s) := by
      have hc := canon_met rs 0 s hcan i r hr
      refine ⟨fun p hp => ?_, fun p hp => ?_, fun b hb => ?_, fun t ht => by rw [stOf_n]; have := hc.d t ht; rw [stOf_n] at this; exact this⟩
      · rw [← hc.t p hp]
        refine stOf_t rs 0 s s rfl (fun j q hq hw => ?_)
        simp only [Nat.zero_add]
        exact htouch j q hq (by unfold touch; simp only [Bool.or_eq_true]; exact .inl (.inl (.inl (.inl (List.any_eq_true.2 ⟨p, hp, hw⟩)))))
      · rw [← hc.b p hp]
        refine stOf_b rs 0 s s rfl (fun j q hq hw => ?_)
        simp only [Nat.zero_add]
        exact htouch j q hq (by unfold touch; simp only [Bool.or_eq_true]; exact .inl (.inl (.inr (List.any_eq_true.2 ⟨p, hp, hw⟩))))
      · rw [← hc.n b hb]
        refine stOf_b rs 0 s s rfl (fun j q hq hw => ?_)
        simp only [Nat.zero_add]
        exact htouch j q hq (by unfold touch; simp only [Bool.or_eq_true]; exact .inl (.inr (List.any_eq_true.2 ⟨b, hb, hw⟩)))
    have hnext : ∀ a' w' G', SR cx (r.app (stOf (fun j => listed.getD j false) 0 rs s)) a' w' G' → wpAny P .any l.toArray Q fuel (listed.setIfInBounds i true) a' w' := by
      intro a' w' G' h'
      have hSeq : (fun j => (listed.setIfInBounds i true).getD j false) = fun j => listed.getD j false || j == i := by
        funext j
        by_cases c : j = i
        · subst c
          have hlt : j < listed.size := by omega
          simp [Array.getD_eq_getD_getElem?, hlt]
        · have c' : i ≠ j := fun e => c e.symm
          have c'' : (j == i) = false := by simpa using c
          simp [Array.getD_eq_getD_getElem?, Array.getElem?_setIfInBounds_ne c', c'']
      refine ih _ a' w' G' (by simpa using hsz) ?_ ?_ ?_
      · rw [hSeq]
        have := (un_more (S := fun j => listed.getD j false) (i := i) l.length h2).1 h1
        omega
      · rw [hSeq]
        intro j o' hj ho e he hb
        simp only [Bool.or_eq_true, beq_iff_eq] at hj ⊢
        rcases hj with hj | hj
        · exact .inl (hcl j o' hj ho e he hb)
        · subst hj
          rw [hoa] at ho
          obtain rfl := Option.some.inj ho
          exact .inl (h4 e he hb)
      · rw [hSeq]
        have := stOf_more (S := fun j => listed.getD j false) (i := i) rs 0 s r hr (by simpa using h2) (fun j q hq hij hSj => by
          have hno : touch r q = false := by
            cases ht : touch r q with
            | false => rfl
            | true =>
              have := htouch j q hq ht
              simp only [Nat.zero_add] at hSj
              rw [hSj] at this
              simp at this; omega
          unfold touch at hno
          simp only [Bool.or_eq_false_iff] at hno
          refine ⟨fun t ht => ?_, fun b hb => ?_⟩
          · unfold Rec.wt at ht
            have hd : r.d = some t := by simpa using ht
            have h5 := hno.1.1.1.2
            rw [hd] at h5
            exact h5
          · cases hq' : q.wb b with
            | false => rfl
            | true =>
              unfold Rec.wb at hb
              obtain ⟨p, hp, hpb⟩ := List.any_eq_true.1 hb
              have hpb' : p.1 = b := by simpa using hpb
              have h5 := List.any_eq_false.1 hno.2 p hp
              rw [hpb'] at h5
              exact absurd hq' h5)
        simp only [Nat.zero_add] at this
        exact h'.alike this
    have hro := hrec i o r h3 hr
    unfold wpOp
    rw [hoa]
    simp only
    cases hro with
    | loose hgd hd hl =>
      rw [if_pos (by simp [Region.wanted, hgd])]
      exact .inl (hl _ (stOf_inv rs 0 s hinv hkeep) hmet cx a w G hP hg h _ _ fun a' w' G' h' => hnext a' w' G' h')
    | old hro =>
    cases hro with
    | plain hgd hd hl =>
      rw [if_pos (by simp [Region.wanted, hgd])]
      exact .inl (hl _ hmet cx a w G hP hg h _ _ fun a' w' G' h' => hnext a' w' G' h')
    | yes j t b want hgd hd hj ht hb hl =>
      have hlk := hmet.t _ ht
      have hy := yielded_of hj (h.boolSlot (s := stOf (fun j => listed.getD j false) 0 rs s) (t := t) (b := b) (by unfold St.get; rw [hlk]; rfl))
      rw [if_pos (by simp [Region.wanted, hgd, hy, hb])]
      exact .inl (hl _ hmet cx a w G hP hg h _ _ fun a' w' G' h' => hnext a' w' G' h')
    | no j t x want hgd hd hj ht hb hx hu =>
      have hlk := hmet.t _ ht
      have hy := yielded_off hj (h.slot (s := stOf (fun j => listed.getD j false) 0 rs s) (t := t) (x := x) (by unfold St.get; rw [hlk]; rfl)) hb
      rw [if_neg (by simp [Region.wanted, hgd, hy])]
      refine hnext _ _ G ?_
      have := h.putO (d := r.d) (x := .tup []) (v := undef) (fun t ht => hmet.d t ht) RA.undef
      rw [hd]
      unfold Rec.app
      rw [hu, hx]
      cases hrd' : r.d with
      | none => rw [hrd'] at this; exact this
      | some d => rw [hrd'] at this; exact this

/-- A region whose order is drawn, where something holds all along. -/
theorem Runs.drawI {Inv : St → Prop} {id : Nat} {l : List Oper} {rs : List Rec} (hm : P.follows .mixedOrders = true) (hlen : rs.length = l.length) (hrec : ∀ (i : Nat) o r, l[i]? = some o → rs[i]? = some r → RecOkI P g Inv l.toArray o r) (hinv : Inv s) (hkeep : ∀ r ∈ rs, ∀ s, Inv s → Inv (r.app s)) (hcan : Canon s rs) (hed : edgesOk 0 l = true) (hap : apartAll (masks [] l) rs 0 rs = true) :
    Runs P g (.region id l.toArray true) s .normal (stOf (fun _ => true) 0 rs s) := by
  intro cx a w G hP hg h
  refine wp_region_any hm ?_
  have hf : (fun j => (Array.replicate l.toArray.size false).getD j false) = fun _ => false := by
    funext j
    simp [Array.getD_eq_getD_getElem?, Array.getElem?_replicate]
    split <;> rfl
  refine draw_anyI hP hg hlen hrec hinv hkeep hcan hed hap (fun a w G h => ⟨trivial, G, h⟩) _ _ a _ G (by simp) ?_ ?_ ?_
  · unfold un
    refine Nat.le_trans (List.length_filter_le _ _) (by simp)
  · intro i o hi
    rw [hf] at hi
    cases hi
  · rw [hf]
    have h0 : ∀ (rs : List Rec) (k : Nat) (s : St), stOf (fun _ => false) k rs s = s := by
      intro rs
      induction rs with
      | nil => intro k s; rfl
      | cons r1 rs ih2 => intro k s; simp only [stOf]; simp only [Bool.false_eq_true, if_false]; exact ih2 _ _
    rw [h0]
    exact h.drew
end
inductive RecsI (P : Program) (g : Gb) (Inv : St → Prop) (ops : Array Oper) : List Oper → St → List Rec → St → Prop
  | nil (s : St) : RecsI P g Inv ops [] s [] s
  | cons {o : Oper} {l : List Oper} {s s' : St} {r : Rec} {rs : List Rec} (h : RecOkI P g Inv ops o r) (hm : r.Met s) (t : RecsI P g Inv ops l (r.app s) rs s') : RecsI P g Inv ops (o :: l) s (r :: rs) s'
section
variable {P : Program} {g : Gb} {Inv : St → Prop} {ops : Array Oper}
theorem RecsI.get {l : List Oper} {s s' : St} {rs : List Rec} (h : RecsI P g Inv ops l s rs s') : rs.length = l.length ∧ (∀ (i : Nat) o r, l[i]? = some o → rs[i]? = some r → RecOkI P g Inv ops o r) ∧ Canon s rs ∧ ∀ k, stOf (fun _ => true) k rs s = s' := by
  induction h with
  | nil s => exact ⟨rfl, fun i o r h => by simp at h, trivial, fun k => rfl⟩
  | cons h hm t ih =>
    obtain ⟨e1, e2, e3, e4⟩ := ih
    refine ⟨by simp [e1], fun i o r ho hr => ?_, ⟨hm, e3⟩, fun k => ?_⟩
    · cases i with
      | zero => simp at ho hr; subst ho; subst hr; exact h
      | succ i => exact e2 i o r (by simpa using ho) (by simpa using hr)
    · simp only [stOf, if_true]; exact e4 (k + 1)
/-- What is left of such a region. -/
def DrI (P : Program) (g : Gb) (Inv : St → Prop) (ops : Array Oper) (l : List Oper) (s : St) (Θ : List Rec → St → Prop) : Prop := ∃ rs s', RecsI P g Inv ops l s rs s' ∧ Θ rs s'
theorem DrI.nil {s : St} {Θ : List Rec → St → Prop} (h : Θ [] s) : DrI P g Inv ops [] s Θ := ⟨[], s, .nil s, h⟩
theorem DrI.cons {o : Oper} {l : List Oper} {s : St} {r : Rec} {Θ : List Rec → St → Prop} (h : RecOkI P g Inv ops o r) (hm : r.Met s) (t : DrI P g Inv ops l (r.app s) (fun rs => Θ (r :: rs))) : DrI P g Inv ops (o :: l) s Θ :=
  let ⟨rs, s', h1, h2⟩ := t; ⟨r :: rs, s', .cons h hm h1, h2⟩
/-- One operation by a rule of the plain kind. -/
theorem DrI.step {o : Oper} {l : List Oper} {s : St} {Θ : List Rec → St → Prop} (h : Dr P g ops [o] s (fun rs s' => DrI P g Inv ops l s' (fun rs' => Θ (rs ++ rs')))) : DrI P g Inv ops (o :: l) s Θ := by
  obtain ⟨rs, s', h1, rs', s2, h2, h3⟩ := h
  cases h1 with
  | cons h hm t =>
    cases t
    exact ⟨_, s2, .cons (.old h) hm h2, h3⟩
theorem Run.drawI {id : Nat} {l : List Oper} {s : St} {Φ : Ex → St → Prop} (hm : P.follows .mixedOrders = true) (hed : edgesOk 0 l = true) (hinv : Inv s) (h : DrI P g Inv l.toArray l s (fun rs s' => apartAll (masks [] l) rs 0 rs = true ∧ (∀ r ∈ rs, ∀ s, Inv s → Inv (r.app s)) ∧ Φ .normal s')) : Run P g (.region id l.toArray true) s Φ := by
  obtain ⟨rs, s', h1, h2, h3, h4⟩ := h
  obtain ⟨e1, e2, e3, e4⟩ := h1.get
  have := Runs.drawI (id := id) hm e1 e2 hinv h3 e3 hed h2
  rw [e4 0] at this
  exact ⟨_, _, this, h4⟩
end
section
variable {E : Env} {n : Nat} {tm : List (Nat × AV)} {bx : List (Nat × Box)} {ops : Array Oper} {l : List Oper} {d : Tmp} {ty : TypeId} {pos : String} {after : Array Edge}
/-- A call by name to which boxes are lent, all of which are handed back. -/
theorem D.lendL {Θ : List Rec → St → Prop} {f : FuncId} {xs : Array Operand} {ts : Array TypeId} {args : List AV} {bi bo kb : List (Nat × Box)} {r : AV} {ln : List Nat} (hc : FnL ⟨E.P, ⟨E.g.fn, ln⟩, E.T, E.L⟩ f args bi r bo) (hargs : evsO E tm xs.toList = some args)
    (hcl : ∀ x ∈ args, men3 bi x = true) (hbi : BxIn bx bi) (hsim : (bi.all fun p => (look bi p.1).isSome) = true) (hme : ∀ p ∈ bi, look bi p.1 = some p.2) (hbc : mbx bi bi = true) (hln : lnVars bi ln = true) (hnw : lnNew ln E.g.ln bo = true) (hkb : klOf ln bo = kb) (hkb2 : klOk ln bo kb = true) (hbk : (bi.all fun p => has kb p.1) = true) (hbo : (bo.all fun p => has bi p.1) = true) (hd : Nat.blt d n = true)
    (h : Dr E.P E.g ops l ⟨n, (d, r) :: tm, bo ++ bx⟩ (fun rs => Θ (⟨rtsOf E tm xs.toList, bi, [], some d, r, bo⟩ :: rs))) :
    Dr E.P E.g ops (⟨some d, .call { callee := .value (.func f), args := xs, argTypes := ts }, ty, pos, after, none⟩ :: l) ⟨n, tm, bx⟩ Θ := by
  obtain ⟨fn, h1, h2, h3⟩ := hc.fn
  have hbl : ∀ p ∈ bi, look bx p.1 = some p.2 := fun p hp => by
    have e1 := hme p hp
    rcases hbi.get p.1 with e | e
    · rw [e] at e1; cases e1
    · rw [← e]; exact e1
  have hhas : ∀ b, has bi b = true → has kb b = true := fun b hb => by
    obtain ⟨B, hB⟩ := of_has hb
    have : ∀ (l : List (Nat × Box)), (l.all fun p => has kb p.1) = true → ∀ B, look l b = some B → has kb b = true := by
      intro l
      induction l with
      | nil => intro _ B h; simp [look] at h
      | cons p l ih =>
        intro hl B hB
        simp only [List.all_cons, Bool.and_eq_true] at hl
        obtain ⟨k, C⟩ := p
        rw [look_cons] at hB
        by_cases e : k = b
        · subst e; exact hl.1
        · rw [if_neg e] at hB; exact ih hl.2 B hB
    exact this bi hbk B hB
  have hobi : ∀ b, has bo b = true → has bi b = true := fun b hb => by
    obtain ⟨B, hB⟩ := of_has hb
    have : ∀ (l : List (Nat × Box)), (l.all fun p => has bi p.1) = true → ∀ B, look l b = some B → has bi b = true := by
      intro l
      induction l with
      | nil => intro _ B h; simp [look] at h
      | cons p l ih =>
        intro hl B hB
        simp only [List.all_cons, Bool.and_eq_true] at hl
        obtain ⟨k, C⟩ := p
        rw [look_cons] at hB
        by_cases e : k = b
        · subst e; exact hl.1
        · rw [if_neg e] at hB; exact ih hl.2 B hB
    exact this bo hbo B hB
  refine Dr.cons (r := ⟨rtsOf E tm xs.toList, bi, [], some d, r, bo⟩) (.plain rfl rfl fun s hs => ?_) (met_mk (rts_now _) (fun p hp => hbl p hp) none_new hd) h
  have hb' : BxIn s.bx (dropB bi [] s.bx) := BxIn.of fun b B hB => (dropB_mem s.bx [] b B hB).2.1
  have hres := OpOk.lendS (P := E.P) (g := E.g) (s := s) (o := ⟨some d, .call { callee := .value (.func f), args := xs, argTypes := ts }, ty, pos, after, none⟩) (ln := ln) (bx' := dropB bi [] s.bx) (kb := kb) rfl hc.ok ⟨fn, h1⟩
    (fun cx a w G hP hg hsr => run_callV (cs := []) hg hsr rfl h1 h2 h3 (by rw [List.append_nil]; exact evsO_rts _ _ hargs s hs.t)) hcl (BxIn.of fun b B hB => hs.b (b, B) hB) hbc hln hb'
    (disj_of fun b B hB => (dropB_mem s.bx [] b B hB).2.2) (by
      have : ∀ (l : List (Nat × Box)), (l.all fun p => has bi p.1) = true → disj (dropB bi [] s.bx) l = true := by
        intro l
        induction l with
        | nil => intro _; rfl
        | cons p l ih =>
          intro hl
          simp only [List.all_cons, Bool.and_eq_true] at hl
          simp only [disj, Bool.and_eq_true, Bool.not_eq_true']
          refine ⟨?_, ih hl.2⟩
          cases hh : has (dropB bi [] s.bx) p.1 with
          | false => rfl
          | true =>
            obtain ⟨B, hB⟩ := of_has hh
            have := (dropB_mem s.bx [] p.1 B (look_mem hB)).2.2
            rw [hl.1] at this; cases this
      exact this bo hbo) hnw hkb2 (fun b hb => by
      cases hh : has bi b with
      | true => exact .inr (hhas b hh)
      | false =>
        left
        obtain ⟨B, hB⟩ := of_has hb
        have := dropB_look (bi := bi) hh s.bx [] rfl
        rw [hB] at this
        exact has_of this) (hs.d d rfl)
  refine hres.alike ⟨rfl, fun t => rfl, fun b => ?_⟩
  show look (bo ++ dropB bi [] s.bx) b = look (bo ++ s.bx) b
  rw [look_append, look_append]
  cases hl : look bo b with
  | some B => rfl
  | none =>
    cases hh : has bi b with
    | false => exact dropB_look hh s.bx [] rfl
    | true =>
      obtain ⟨h5, cs, h6⟩ := klOk_ok hkb2 b (hhas b hh)
      rw [hl] at h6; cases h6
end
/-- The cell of a variable is this, whatever its others are. -/
def CellIs (b o : Nat) (x : AV) (s : St) : Prop := ∃ cs, look s.bx b = some (.var cs) ∧ cs[o]? = some x
section
variable {E : Env} {n : Nat} {tm : List (Nat × AV)} {bx : List (Nat × Box)} {ops : Array Oper} {l : List Oper} {d : Tmp} {ty : TypeId} {pos : String} {after : Array Edge}
/-- A cell is read that stays as it is, whenever that comes. -/
theorem DrI.loadC {Θ : List Rec → St → Prop} {t : TypeId} {y : Operand} {i : TI} {b o : Nat} {x : AV} (hE : E.Ok) (ht : E.T t = some i) (ha : aggD i.desc = false) (hy : evO E tm y = some (.ptr b o)) (hd : Nat.blt d n = true)
    (h : DrI E.P E.g (CellIs b o x) ops l ⟨n, (d, x) :: tm, bx⟩ (fun rs => Θ (⟨rtOf y (.ptr b o), [], [], some d, x, []⟩ :: rs))) : DrI E.P E.g (CellIs b o x) ops (⟨some d, .load t y, ty, pos, after, none⟩ :: l) ⟨n, tm, bx⟩ Θ := by
  refine DrI.cons (r := ⟨rtOf y (.ptr b o), [], [], some d, x, []⟩) (.loose rfl rfl fun s hinv hs => ?_) (met_mk (rt_now hy) none_met none_new hd) h
  obtain ⟨cs, h1, h2⟩ := hinv
  refine OpOk.load (s := s) (cs := cs.drop o) (x := x) (hE.t _ _ ht) (evO_ok (n := s.n) (bx := s.bx) (rt_ev hy hs.t)) ?_ ?_ hs.d
  · show St.cellsAt s (.ptr b o) = some (cs.drop o)
    simp only [St.cellsAt, h1]
  · unfold loadAV
    rw [ha]
    simp only [cond_false]
    rw [List.head?_drop]
    exact h2
end
theorem cellIs_app {b o : Nat} {x : AV} {r : Rec} (h : r.wb b = false ∨ ∃ cs, look r.ub b = some (.var cs) ∧ cs[o]? = some x) : ∀ s, CellIs b o x s → CellIs b o x (r.app s) := by
  rintro s ⟨cs, h1, h2⟩
  rcases h with h | ⟨cs', h3, h4⟩
  · exact ⟨cs, by rw [look_app_b h]; exact h1, h2⟩
  · refine ⟨cs', ?_, h4⟩
    unfold Rec.app
    simp only
    rw [look_append, h3]
end Go.Proofs.YtdigejpgjnhclaaDoor.Vm
