/- Covers: the cover of one slot alone is its path; a list that grows under another number; a call of lists in a drawn region. Conditions: none. -/
import Derived.Test.YtokjeodlcilfpaaDoorCoverD
import Derived.Test.YtokjeodlcilfpaaDoorOpenTellsW
namespace Go.Proofs.YtokjeodlcilfpaaDoor.Vm
open Go Go.RowKit
set_option linter.unusedVariables false
set_option linter.unusedSimpArgs false
attribute [local irreducible] Ops Dr Run digP
variable {g : Nat → Option (List PV)}
section
variable {n : Nat} {tm tm' : List (Nat × AV)} {bx bx' : List (Nat × Box)}
/-- A list that grows, under another number. -/
theorem SLe.reown {t b b' e sz m : Nat} {xs : List PV} (ht : look tm t = some (.gl b m)) (hm' : m = xs.length) (hb : look bx b = some (.lst e sz xs)) (hn : Nat.blt t n = true) (htm : TmIn tm tm') (hbx : BxIn bx bx') (hx : has bx' b = false) (hx' : has bx' b' = false) (hm : mtm bx' tm' = true) (hmb : mbx bx' bx' = true) :
    SLe ⟨n, tm, bx⟩ ⟨n, (t, .gl b' m) :: tm', (b', .lst e sz xs) :: bx'⟩ := by
  intro cx a w G h
  obtain ⟨hh, us, f1, f2, f3, f4, f5⟩ := h.bx b _ hb
  have hbxl : ∀ i B, look bx' i = some B → look bx i = some B := fun i B hi => by
    rcases hbx.get i with e | e
    · rw [e] at hi; cases hi
    · rw [← e]; exact hi
  have hbxh : ∀ i B, look bx i = some B → has bx' i = true → look bx' i = some B := fun i B hi hh => by
    obtain ⟨C, hC⟩ := of_has hh
    rw [hbxl i C hC] at hi
    obtain rfl := Option.some.inj hi
    exact hC
  obtain ⟨G', hG⟩ : ∃ G' : Gh, G' = ⟨G.dat, fun i => if has bx' i = true then G.blk i else none, fun i => if i = b' then G.ls b else if has bx' i = true then G.ls i else none⟩ := ⟨_, rfl⟩
  have hne : ∀ i, has bx' i = true → i ≠ b' := fun i hi e => by subst e; rw [hx'] at hi; cases hi
  have hagree : ∀ {x : AV} {v : Value}, RA G x v → Mentions (has bx') x → RA G' x v := fun hx hm =>
    hx.agree (G' := G') (D := has bx') (fun _ _ _ h => by subst hG; exact h) (fun i k hD hk => by subst hG; simp [hD, hk]) (fun i x hD hk => by subst hG; simp [hne i hD, hD, hk]) hm
  have hownb : G'.own b' = G.own b := by subst hG; simp [Gh.own, hx', h.lst_blk hb]
  have hownx : ∀ i, has bx' i = true → G'.own i = G.own i := fun i hi => by subst hG; simp [Gh.own, hi, hne i hi]
  have hownn : ∀ i, has bx' i = false → i ≠ b' → G'.own i = none := fun i hi hn => by subst hG; simp [Gh.own, hi, hn]
  have hlb : G'.ls b' = some (sz, xs, hh) := by subst hG; simp [f1]
  have h0 : SR cx ⟨n, tm', (b', .lst e sz xs) :: bx'⟩ a w G' := by
    refine ⟨fun t => ?_, h.sz, h.df, fun b o v hv => h.dat b o v (by subst hG; exact hv), fun i B hB => ?_, fun i k hk => ?_, fun i x hi => ?_, fun i i' k hk hk' => ?_, h.bel, by subst hG; exact h.low, fun gg cs hg => hagree (h.glo gg cs hg) (.eptr cs), h.bas⟩
    · unfold St.get
      cases hl : look tm' t with
      | none => exact .any _
      | some x =>
        rcases htm.get t with e | e
        · rw [e] at hl; cases hl
        · have : St.get ⟨n, tm, bx⟩ t = x := by unfold St.get; rw [← e, hl]; rfl
          exact hagree (h.slot this) (men3_ok (mtm_look hm t x hl))
    · rw [look_cons] at hB
      by_cases c : b' = i
      · subst c
        rw [if_pos rfl] at hB
        obtain rfl := Option.some.inj hB
        exact ⟨hh, us, hlb, f2, f3, by subst hG; exact f4, fun k hk o ho => by subst hG; exact f5 k hk o ho⟩
      · rw [if_neg c] at hB
        have hD := has_of hB
        have h1 := h.bx i B (hbxl i B hB)
        have hmB := mbx_look hmb i B hB
        cases B with
        | var cs =>
          obtain ⟨k, ty, vs, e1, e2, e3, e4, e5, e6⟩ := h1
          exact ⟨k, ty, vs, by subst hG; simp [hD, e1], e2, e3, e4, fun j x v hx hv => hagree (e5 j x v hx hv) (mens2_ok hmB x (List.mem_of_getElem? hx)), fun o => by subst hG; exact e6 o⟩
        | lst e' sz' xs' =>
          obtain ⟨hh', us', e1, e2, e3, e4, e5⟩ := h1
          exact ⟨hh', us', by subst hG; simp [hD, hne i hD, e1], e2, e3, by subst hG; exact e4, fun k hk o ho => by subst hG; exact e5 k hk o ho⟩
    · have hD : has bx' i = true := by
        cases c : has bx' i with
        | true => rfl
        | false => subst hG; simp [c] at hk
      have hk0 : G.blk i = some k := by subst hG; simpa [hD] using hk
      obtain ⟨⟨cs, h1⟩, h2⟩ := h.gb i k hk0
      refine ⟨⟨cs, ?_⟩, h2⟩
      show look ((b', _) :: bx') i = _
      rw [look_cons, if_neg (Ne.symm (hne i hD))]
      exact hbxh i _ h1 hD
    · show ∃ e sz xs, look ((b', _) :: bx') i = some (.lst e sz xs)
      rw [look_cons]
      by_cases c : b' = i
      · exact ⟨e, sz, xs, by rw [if_pos c]⟩
      · rw [if_neg c]
        have hD : has bx' i = true := by
          cases c2 : has bx' i with
          | true => rfl
          | false => subst hG; simp [c2, Ne.symm c] at hi
        have hx0 : G.ls i = some x := by subst hG; simpa [hD, Ne.symm c] using hi
        obtain ⟨e', sz', xs', h1⟩ := h.gl i x hx0
        exact ⟨e', sz', xs', hbxh i _ h1 hD⟩
    · have key : ∀ i k, G'.own i = some k → (i = b' ∧ G.own b = some k) ∨ (i ≠ b' ∧ i ≠ b ∧ G.own i = some k) := fun i k hk => by
        by_cases c : i = b'
        · subst c; rw [hownb] at hk; exact .inl ⟨rfl, hk⟩
        · cases c2 : has bx' i with
          | true =>
            rw [hownx i c2] at hk
            refine .inr ⟨c, ?_, hk⟩
            intro e0
            rw [e0, hx] at c2
            cases c2
          | false => rw [hownn i c2 c] at hk; cases hk
      rcases key i k hk with ⟨e1, e2⟩ | ⟨e1, e2, e3⟩ <;> rcases key i' k hk' with ⟨e4, e5⟩ | ⟨e4, e5, e6⟩
      · rw [e1, e4]
      · exact absurd (h.inj b i' k e2 e6).symm e5
      · exact absurd (h.inj i b k e3 e5) e2
      · exact h.inj i i' k e3 e6
  have hv := h.slot (t := t) (x := .gl b m) (by simp [St.get, ht])
  have hv' : RA G' (.gl b' m) (a.tmps.getD t undef) := by
    generalize a.tmps.getD t undef = v at hv
    cases hv with
    | gl _ _ _ sz0 xs0 hh0 hb0 hn0 hp0 hv0 =>
      rw [f1] at hb0
      obtain ⟨e1, e2⟩ := Prod.mk.inj (Option.some.inj hb0)
      obtain ⟨e3, e4⟩ := Prod.mk.inj e2
      subst e1; subst e3; subst e4
      exact .gl b' m v sz xs hh hlb hn0 (by subst hG; exact hp0) hv0
  refine ⟨G', fun t' => ?_, h0.sz, h0.df, h0.dat, h0.bx, h0.gb, h0.gl, h0.inj, h0.bel, h0.low, h0.glo, h0.bas⟩
  have := h0.tm t'
  unfold St.get at this ⊢
  rw [look_cons]
  by_cases c : t = t'
  · subst c; rw [if_pos rfl]; exact hv'
  · rw [if_neg c]; exact this
end
section
variable {E : Env} {n : Nat} {tm : List (Nat × AV)} {bx : List (Nat × Box)} {ops : Array Oper} {l : List Oper} {d : Tmp} {ty : TypeId} {pos : String} {after : Array Edge}
theorem AVle.boxes {s s' : St} (hb : ∀ x q, s.lstOf x = some q → s'.lstOf x = some q) {x y : AV} (h : AVle s x y) : AVle s' x y := by
  induction h with
  | refl x => exact .refl x
  | any x => exact .any x
  | lst x sz xs h => exact .lst x sz xs (hb _ _ h)
  | nil sz => exact .nil sz
  | agg xs ys hl _ ih => exact .agg xs ys hl ih
  | tup xs ys hl _ ih => exact .tup xs ys hl ih
theorem AVles.boxes {s s' : St} (hb : ∀ x q, s.lstOf x = some q → s'.lstOf x = some q) {xs ys : List AV} (h : AVles s xs ys) : AVles s' xs ys := by
  induction h with
  | nil => exact .nil
  | cons h t ih => exact .cons (h.boxes hb) ih
/-- A call whose arguments are lists that these boxes hold, in a region whose order is drawn. -/
theorem D.callF {Θ : List Rec → St → Prop} {f : FuncId} {xs : Array Operand} {ts : Array TypeId} {as0 args : List AV} {r : AV} (rb : List (Nat × Box)) (hc : FnC E f args r []) (hargs : evsO E tm xs.toList = some as0) (hle : AVles ⟨0, [], rb⟩ as0 args) (hrb : BxIn bx rb) (hcl : closed args = true) (hdr : d2 r = true) (hd : Nat.blt d n = true)
    (h : Dr E.P E.g ops l ⟨n, (d, r) :: tm, bx⟩ (fun rs => Θ (⟨rtsOf E tm xs.toList, rb, [], some d, r, []⟩ :: rs))) :
    Dr E.P E.g ops (⟨some d, .call { callee := .value (.func f), args := xs, argTypes := ts }, ty, pos, after, none⟩ :: l) ⟨n, tm, bx⟩ Θ := by
  obtain ⟨fn, h1, h2, h3⟩ := hc.fn
  have hall : ∀ (l : List (Nat × Box)), BxIn bx l → ∀ p ∈ l, look bx p.1 = some p.2 := by
    intro l hl
    induction hl with
    | nil => intro p hp; simp at hp
    | cons h r ih =>
      intro p hp
      cases hp with
      | head => exact h
      | tail _ hp => exact ih p hp
  refine Dr.cons (r := ⟨rtsOf E tm xs.toList, rb, [], some d, r, []⟩) (.plain rfl rfl fun s hs => ?_) (met_mk (rts_now _) (hall rb hrb) none_new hd) h
  have := OpOk.call (s := s) (P := E.P) (g := E.g) (d := d) (xs := xs) (ts := ts) (ty := ty) (pos := pos) (after := after) (gd := none) 0 hc.ok h1 h2 h3 (by
    rw [evsO_rts _ _ hargs s hs.t]
    refine hle.boxes fun x q hq => ?_
    cases x with
    | pv p => cases p <;> first | exact hq | (simp [St.lstOf] at hq)
    | gl b m =>
      simp only [St.lstOf] at hq ⊢
      cases hl : look rb b with
      | none => rw [hl] at hq; cases hq
      | some B =>
        rw [hl] at hq
        rw [hs.b (b, B) (look_in hl)]
        exact hq
    | _ => simp [St.lstOf] at hq) hcl rfl rfl hdr rfl (hs.d d rfl)
  rw [sh3_zero] at this
  exact this
end
/-- What stands on the left of the way up, on the right. -/
def lefts (P : Nat → List Int) (i : Nat) : Nat → List (List Int)
  | 0 => []
  | k + 1 => if i / 2 ^ k % 2 = 1 then P k :: lefts P i k else lefts P i k
def rights (P : Nat → List Int) (i : Nat) : Nat → List (List Int)
  | 0 => []
  | k + 1 => if i / 2 ^ k % 2 = 1 then rights P i k else rights P i k ++ [P k]
theorem lefts_congr {P P' : Nat → List Int} {i i' : Nat} : ∀ (k : Nat), (∀ j, j < k → P j = P' j ∧ i / 2 ^ j % 2 = i' / 2 ^ j % 2) → lefts P i k = lefts P' i' k ∧ rights P i k = rights P' i' k
  | 0, _ => ⟨rfl, rfl⟩
  | k + 1, h => by
    obtain ⟨e1, e2⟩ := lefts_congr k fun j hj => h j (by omega)
    obtain ⟨e3, e4⟩ := h k (by omega)
    simp only [lefts, rights, e1, e2, e3, e4]
    exact ⟨trivial, trivial⟩
theorem lr_len {P : Nat → List Int} {i : Nat} : ∀ (k : Nat), (lefts P i k).length + (rights P i k).length = k
  | 0 => rfl
  | k + 1 => by
    have := lr_len (P := P) (i := i) k
    simp only [lefts, rights]
    split <;> simp <;> omega
/-- One slot alone is open. -/
def hot (n i : Nat) : List Bool := (List.range n).map fun j => decide (i = j)
theorem hot_any {n i : Nat} (h : i < n) : (hot n i).any id = true := by
  simp only [hot, List.any_map, List.any_eq_true, List.mem_range]
  exact ⟨i, h, by simp⟩
theorem hot_none {n i : Nat} (h : n ≤ i) : (hot n i).any id = false := by
  cases hh : (hot n i).any id with
  | false => rfl
  | true =>
    simp only [hot, List.any_map, List.any_eq_true, List.mem_range] at hh
    obtain ⟨j, h1, h2⟩ := hh
    simp at h2
    omega
theorem hot_take {n i : Nat} : (hot (2 * n) i).take n = hot n i := by
  unfold hot
  rw [← List.map_take, List.take_range, Nat.min_eq_left (by omega)]
theorem hot_drop {n i : Nat} (h : n ≤ i) : (hot (2 * n) i).drop n = hot n (i - n) := by
  apply List.ext_getElem?
  intro j
  simp only [hot, List.getElem?_drop, List.getElem?_map]
  by_cases hj : j < n
  · rw [List.getElem?_range (by omega), List.getElem?_range hj]
    simp only [Option.map_some, Option.some.injEq, decide_eq_decide]
    omega
  · rw [List.getElem?_eq_none (by simp; omega), List.getElem?_eq_none (by simp; omega)]
    rfl
theorem hot_drop_none {n i : Nat} (h : i < n) : ((hot (2 * n) i).drop n).any id = false := by
  cases hh : ((hot (2 * n) i).drop n).any id with
  | false => rfl
  | true =>
    simp only [List.any_eq_true] at hh
    obtain ⟨b, h1, h2⟩ := hh
    obtain ⟨j, hj, he⟩ := List.mem_iff_getElem.1 h1
    simp only [hot, List.getElem_drop, List.getElem_map, List.getElem_range] at he
    simp only [id] at h2
    rw [h2] at he
    simp at he
    omega
theorem covP_none {D : Int → List (List Int) → List Int} {os : List Bool} (h : os.any id = false) : ∀ (k : Nat) (ss : List Sl), covP D k ss os = ([], [rootQ D k ss])
  | 0, ss => by rw [covP_zero, if_neg (by simp [h])]
  | k + 1, ss => by rw [covP_succ, if_neg (by simp [h])]
theorem sib_add {x q : Nat} : sib (x + 2 * q) = sib x + 2 * q := by
  unfold sib
  split <;> split <;> omega
theorem getD_right {a b : List (List Int)} {i : Nat} (h : a.length ≤ i) : (a ++ b).getD i [] = b.getD (i - a.length) [] := by
  rw [List.getD_eq_getElem?_getD, List.getD_eq_getElem?_getD, List.getElem?_append_right h]
theorem getD_left {a b : List (List Int)} {i : Nat} (h : i < a.length) : (a ++ b).getD i [] = a.getD i [] := by
  rw [List.getD_eq_getElem?_getD, List.getD_eq_getElem?_getD, List.getElem?_append_left h]
/-- The cover of one slot is its path. -/
theorem covP_hot {D : Int → List (List Int) → List Int} : ∀ (k : Nat) (ss : List Sl) (i : Nat) (s : Sl), ss.length = 2 ^ k → ss[i]? = some s →
    covP D k ss (hot (2 ^ k) i) = ([s], lefts (fun j => (upN D (ss.map (leafP D)) j).getD (sib (i / 2 ^ j)) []) i k ++ rights (fun j => (upN D (ss.map (leafP D)) j).getD (sib (i / 2 ^ j)) []) i k)
  | 0, ss, i, s, hl, hs => by
    match ss, hl with
    | [u], _ =>
      have hi : i = 0 := by
        have := (List.getElem?_eq_some_iff.1 hs).1
        simp at this
        omega
      subst hi
      simp at hs
      subst hs
      rfl
  | k + 1, ss, i, s, hl, hs => by
    have hi : i < 2 ^ (k + 1) := by rw [← hl]; exact (List.getElem?_eq_some_iff.1 hs).1
    have hp2 : 2 ^ (k + 1) = 2 * 2 ^ k := by rw [Nat.pow_succ]; omega
    have hany := hot_any hi
    rw [hp2] at hl hi hany ⊢
    rw [covP_succ, if_pos hany, hot_take]
    have ha : (ss.take (2 ^ k)).length = 2 ^ k := by rw [List.length_take]; omega
    have hb : (ss.drop (2 ^ k)).length = 2 ^ k := by rw [List.length_drop]; omega
    have e : ss.map (leafP D) = (ss.take (2 ^ k)).map (leafP D) ++ (ss.drop (2 ^ k)).map (leafP D) := by rw [← List.map_append, List.take_append_drop]
    have hRa : ((ss.take (2 ^ k)).map (leafP D)).length = 2 ^ k := by rw [List.length_map, ha]
    have hRb : ((ss.drop (2 ^ k)).map (leafP D)).length = 2 ^ k := by rw [List.length_map, hb]
    have hR : ∀ j, j ≤ k → upN D (ss.map (leafP D)) j = upN D ((ss.take (2 ^ k)).map (leafP D)) j ++ upN D ((ss.drop (2 ^ k)).map (leafP D)) j := fun j hj => by rw [e]; exact upN_append hRa j hj
    have hla := fun j hj => upN_len (D := D) hRa j hj
    have hlb := fun j hj => upN_len (D := D) hRb j hj
    have hda := hla k (Nat.le_refl _)
    have hdb := hlb k (Nat.le_refl _)
    rw [Nat.sub_self] at hda hdb
    by_cases hik : i < 2 ^ k
    · have ih := covP_hot (D := D) k (ss.take (2 ^ k)) i s ha (by rw [List.getElem?_take, if_pos hik]; exact hs)
      rw [ih, covP_none (hot_drop_none hik)]
      have hbit : i / 2 ^ k % 2 = 0 := by rw [Nat.div_eq_of_lt hik]
      have hcon := lefts_congr (P := fun j => (upN D (ss.map (leafP D)) j).getD (sib (i / 2 ^ j)) []) (P' := fun j => (upN D ((ss.take (2 ^ k)).map (leafP D)) j).getD (sib (i / 2 ^ j)) []) (i := i) (i' := i) k (fun j hj => ⟨by
        have hx := div_lt hik (Nat.le_of_lt hj)
        have hev := half_pow hj
        have hs2 : sib (i / 2 ^ j) < 2 ^ (k - j) := by
          rw [hev] at hx ⊢
          generalize i / 2 ^ j = y at *
          generalize 2 ^ (k - (j + 1)) = z at *
          unfold sib
          split <;> omega
        show (upN D (ss.map (leafP D)) j).getD (sib (i / 2 ^ j)) [] = (upN D ((ss.take (2 ^ k)).map (leafP D)) j).getD (sib (i / 2 ^ j)) []
        rw [hR j (by omega), getD_left (by rw [hla j (by omega)]; exact hs2)], rfl⟩)
      simp only [lefts, rights, hbit, List.append_nil]
      rw [if_neg (by decide), if_neg (by decide), hcon.1, hcon.2, ← List.append_assoc]
      congr 2
      have h0 : i / 2 ^ k = 0 := Nat.div_eq_of_lt hik
      rw [h0, hR k (Nat.le_refl _)]
      show [rootQ D k (ss.drop (2 ^ k))] = [_]
      unfold rootQ
      rw [getD_right (by rw [hda]; decide), hda]
      rfl
    · have hge : 2 ^ k ≤ i := by omega
      have ih := covP_hot (D := D) k (ss.drop (2 ^ k)) (i - 2 ^ k) s hb (by rw [List.getElem?_drop, show 2 ^ k + (i - 2 ^ k) = i by omega]; exact hs)
      rw [covP_none (hot_none hge), hot_drop hge, ih]
      have hq : i / 2 ^ k = 1 := by
        rw [Nat.div_eq_iff (Nat.pow_pos (by decide))]
        omega
      have hbit : i / 2 ^ k % 2 = 1 := by rw [hq]
      have hcon := lefts_congr (P := fun j => (upN D (ss.map (leafP D)) j).getD (sib (i / 2 ^ j)) []) (P' := fun j => (upN D ((ss.drop (2 ^ k)).map (leafP D)) j).getD (sib ((i - 2 ^ k) / 2 ^ j)) []) (i := i) (i' := i - 2 ^ k) k (fun j hj => by
        have hp : 2 ^ k = 2 ^ (k - j) * 2 ^ j := by rw [← Nat.pow_add]; congr 1; omega
        have hdv : i / 2 ^ j = (i - 2 ^ k) / 2 ^ j + 2 ^ (k - j) := by
          have h1 : i = (i - 2 ^ k) + 2 ^ (k - j) * 2 ^ j := by omega
          conv => lhs; rw [h1]
          rw [Nat.add_mul_div_right _ _ (Nat.pow_pos (by decide))]
        have hev := half_pow hj
        refine ⟨?_, by rw [hdv]; omega⟩
        have hsb : sib (i / 2 ^ j) = sib ((i - 2 ^ k) / 2 ^ j) + 2 ^ (k - j) := by rw [hdv, hev, sib_add]
        show (upN D (ss.map (leafP D)) j).getD (sib (i / 2 ^ j)) [] = (upN D ((ss.drop (2 ^ k)).map (leafP D)) j).getD (sib ((i - 2 ^ k) / 2 ^ j)) []
        rw [hR j (by omega), hsb, getD_right (by rw [hla j (by omega)]; omega), hla j (by omega), Nat.add_sub_cancel])
      simp only [lefts, rights, hbit, if_true, List.nil_append, List.cons_append]
      rw [hcon.1, hcon.2]
      congr 2
      rw [hq, hR k (Nat.le_refl _)]
      unfold rootQ
      rw [show sib 1 = 0 from rfl, getD_left (by rw [hda]; decide)]
end Go.Proofs.YtokjeodlcilfpaaDoor.Vm
