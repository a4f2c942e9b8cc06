/- Tapes: what stands on a disk behind so many deeds, pure. Conditions: none. -/
import Derived.Test.YtalcpfpjkfpmbaaTapeF
import Derived.Test.YtalcpfpjkfpmbaaDiskKeepsW
namespace Go.Proofs.Ytalcpfpjkfpmbaa.Vm
open Go Go.RowKit
set_option linter.unusedVariables false
set_option linter.unusedSimpArgs false
attribute [local irreducible] Ops Dr Run
/-- The sector of so many bytes. -/
def part (all : List Int) (i : Nat) : List Int := padS ((all.take (min all.length ((i + 1) * 32))).drop (i * 32))
def wrt (all : List Int) (i : Nat) : Pt := ⟨((1 + i : Nat) : Int), part all i⟩
/-- The first writes. -/
def wsq (all : List Int) (i0 : Nat) : Nat → List Pt
  | 0 => []
  | j + 1 => wsq all i0 j ++ [wrt all (i0 + j)]
theorem wsq_len (all : List Int) (i0 : Nat) : ∀ j, (wsq all i0 j).length = j
  | 0 => rfl
  | j + 1 => by rw [wsq, List.length_append, wsq_len all i0 j]; rfl
theorem wsq_get (all : List Int) (i0 : Nat) : ∀ (n j : Nat), j < n → (wsq all i0 n)[j]? = some (wrt all (i0 + j))
  | 0, j, h => by omega
  | n + 1, j, h => by
    rw [wsq]
    by_cases hc : j < n
    · rw [List.getElem?_append_left (by rw [wsq_len]; exact hc)]
      exact wsq_get all i0 n j hc
    · obtain rfl : j = n := by omega
      rw [List.getElem?_append_right (by rw [wsq_len]; omega), wsq_len, Nat.sub_self]; rfl
theorem part_src (all : List Int) (i : Nat) : ((all.take (min all.length ((i + 1) * 32))).drop (i * 32)).length ≤ 32 := by
  rw [List.length_drop, List.length_take]; omega
theorem part_len (all : List Int) (i : Nat) : (part all i).length = 32 := padS_len (part_src all i)
theorem part_at {all : List Int} {p : Nat} (hp : p < all.length) : (part all (p / 32))[p % 32]? = all[p]? := by
  unfold part padS
  have e : p / 32 * 32 + p % 32 = p := by omega
  have hl : p % 32 < ((all.take (min all.length ((p / 32 + 1) * 32))).drop (p / 32 * 32)).length := by
    rw [List.length_drop, List.length_take]; omega
  rw [List.getElem?_append_left hl, List.getElem?_drop, e, List.getElem?_take, if_pos (by omega)]
/-- How many writes there are. -/
def nW (old n : Nat) : Nat := (n + 31) / 32 - old / 32
theorem wsq_dok {Ls : List (List Int)} {all : List Int} (h : DOk Ls []) (hf : all.length ≤ (Ls.length - 1) * 32) {old : Nat} (hold : old ≤ all.length) (hd : all.length ≤ old + 400) : ∀ j, j ≤ nW old all.length → DOk Ls (wsq all (old / 32) j) := by
  intro j hj
  have hl1 := h.l1
  unfold nW at hj
  refine ⟨h.l1, h.l4, h.s, by rw [wsq_len]; omega, fun w hw => ?_⟩
  obtain ⟨q, hq⟩ := List.getElem?_of_mem hw
  have hql := (List.getElem?_eq_some_iff.1 hq).1
  rw [wsq_len] at hql
  rw [wsq_get all _ j q hql] at hq
  obtain rfl := Option.some.inj hq
  refine ⟨?_, ?_, part_len _ _⟩
  · show (0 : Int) ≤ ((1 + (old / 32 + q) : Nat) : Int); omega
  · show ((1 + (old / 32 + q) : Nat) : Int) < Ls.length; omega
theorem rdP_hit {P : Nat → Bool} {Ls : List (List Int)} {i : Nat} {Ws : List Pt} {j : Nat} {w : Pt} (hw : Ws[j]? = some w) (hP : P j = true) (hi : w.pl = i) : rdP P Ls i Ws (j + 1) = w.s := by
  rw [rdP, hw]
  simp only [hP, if_true, hi]
theorem rdP_miss {P : Nat → Bool} {Ls : List (List Int)} {i : Nat} {Ws : List Pt} {j : Nat} {w : Pt} (hw : Ws[j]? = some w) (h : ¬ (P j = true ∧ w.pl = i)) : rdP P Ls i Ws (j + 1) = rdP P Ls i Ws j := by
  rw [rdP, hw]
  dsimp only
  split
  · rw [if_neg (fun hc => h ⟨by assumption, hc⟩)]
  · rfl
/-- What lasts is, sector by sector, what was or what was written. -/
theorem rdP_wsq (P : Nat → Bool) (Ls : List (List Int)) (all : List Int) (i0 n : Nat) (i : Nat) : ∀ j, j ≤ n → rdP P Ls i (wsq all i0 n) j = Ls.getD i [] ∨ (1 ≤ i ∧ rdP P Ls i (wsq all i0 n) j = part all (i - 1))
  | 0, _ => .inl rfl
  | j + 1, h => by
    have ih := rdP_wsq P Ls all i0 n i j (by omega)
    have hw := wsq_get all i0 n j (by omega)
    by_cases hc : P j = true ∧ (wrt all (i0 + j)).pl = i
    · rw [rdP_hit hw hc.1 hc.2]
      have h2 : ((1 + (i0 + j) : Nat) : Int) = i := hc.2
      refine .inr ⟨by omega, ?_⟩
      show part all (i0 + j) = _
      congr 1; omega
    · rw [rdP_miss hw hc]
      exact ih
theorem rdP_new (Ls : List (List Int)) (all : List Int) (i0 n : Nat) (i : Nat) (h1 : 1 + i0 ≤ i) : ∀ j, j ≤ n → i < 1 + i0 + j → rdP (fun _ => true) Ls i (wsq all i0 n) j = part all (i - 1)
  | 0, _, h => by omega
  | j + 1, h, h2 => by
    have hw := wsq_get all i0 n j (by omega)
    by_cases hc : 1 + (i0 + j) = i
    · rw [rdP_hit hw rfl (by show ((1 + (i0 + j) : Nat) : Int) = i; omega)]
      show part all (i0 + j) = _
      congr 1; omega
    · rw [rdP_miss hw (fun h => hc (by have : ((1 + (i0 + j) : Nat) : Int) = i := h.2; omega))]
      exact rdP_new Ls all i0 n i h1 j (by omega) (by omega)
/-- Some data sectors of a longer tape do no harm. -/
theorem TG.mix {Ls L' : List (List Int)} {bs all : List Int} (h : TG Ls bs) (hl : L'.length = Ls.length) (hs : ∀ S ∈ L', S.length = 32) (h0 : L'.getD 0 [] = Ls.getD 0 []) (hi : ∀ i, 1 ≤ i → i < Ls.length → L'.getD i [] = Ls.getD i [] ∨ L'.getD i [] = part all (i - 1)) (hp : ∀ p, p < bs.length → all[p]? = bs[p]?) (hla : bs.length ≤ all.length) : TG L' bs := by
  refine ⟨by rw [hl]; exact h.l1, by rw [hl]; exact h.l4, hs, by rw [h0]; exact h.hd, by rw [hl]; exact h.fit, fun p hpl => ?_⟩
  have hf := h.fit
  have h1 := h.l1
  rcases hi (1 + p / 32) (by omega) (by omega) with e | e
  · rw [e]; exact h.at' p hpl
  · rw [e, show 1 + p / 32 - 1 = p / 32 by omega, part_at (by omega), hp p hpl]
/-- All data sectors and the head: the longer tape. -/
theorem TG.grow {Ls L' : List (List Int)} {bs all : List Int} (h : TG Ls bs) (hl : L'.length = Ls.length) (hs : ∀ S ∈ L', S.length = 32) (h0 : L'.getD 0 [] = hsec all.length) (hlo : ∀ i, 1 ≤ i → i < 1 + bs.length / 32 → L'.getD i [] = Ls.getD i []) (hi : ∀ i, 1 + bs.length / 32 ≤ i → i < 1 + (all.length + 31) / 32 → L'.getD i [] = part all (i - 1)) (hp : ∀ p, p < bs.length → all[p]? = bs[p]?) (hf : all.length ≤ (Ls.length - 1) * 32) : TG L' all := by
  refine ⟨by rw [hl]; exact h.l1, by rw [hl]; exact h.l4, hs, h0, by rw [hl]; exact hf, fun p hpl => ?_⟩
  by_cases hc : p / 32 < bs.length / 32
  · rw [hlo (1 + p / 32) (by omega) (by omega), h.at' p (by omega), hp p (by omega)]
  · rw [hi (1 + p / 32) (by omega) (by omega), show 1 + p / 32 - 1 = p / 32 by omega, part_at hpl]
/-- What a tape is behind so many deeds of an Append, and whether all were done. -/
def apR (Ls : List (List Int)) (old : Nat) (all : List Int) (a : Int) : List (List Int) × List Pt × Bool :=
  if 0 ≤ a ∧ a ≤ nW old all.length then (Ls, wsq all (old / 32) a.toNat, false)
  else if a = nW old all.length + 1 then (fl (fun _ => true) Ls (wsq all (old / 32) (nW old all.length)) (wsq all (old / 32) (nW old all.length)).length, [], false)
  else if a = nW old all.length + 2 then (fl (fun _ => true) Ls (wsq all (old / 32) (nW old all.length)) (wsq all (old / 32) (nW old all.length)).length, [⟨0, hsec all.length⟩], false)
  else (fl (fun _ => true) (fl (fun _ => true) Ls (wsq all (old / 32) (nW old all.length)) (wsq all (old / 32) (nW old all.length)).length) [⟨0, hsec all.length⟩] 1, [], true)
/-- All that may last of it is a tape. -/
theorem apR_ok {Ls : List (List Int)} {bs all : List Int} (h : TG Ls bs) (hf : all.length ≤ (Ls.length - 1) * 32) (hla : bs.length < all.length) (hd : all.length ≤ bs.length + 400) (hp : ∀ p, p < bs.length → all[p]? = bs[p]?) (a : Int) :
    DOk (apR Ls bs.length all a).1 (apR Ls bs.length all a).2.1 ∧ (apR Ls bs.length all a).1.length = Ls.length
      ∧ ((a < 0 ∨ (nW bs.length all.length : Int) + 2 < a) → (apR Ls bs.length all a).2.2 = true) ∧ ((apR Ls bs.length all a).2.2 = true → (apR Ls bs.length all a).2.1 = [] ∧ TG (apR Ls bs.length all a).1 all)
      ∧ (∀ P : Nat → Bool, (TG (fl P (apR Ls bs.length all a).1 (apR Ls bs.length all a).2.1 (apR Ls bs.length all a).2.1.length) bs ∧ (apR Ls bs.length all a).2.2 = false) ∨ TG (fl P (apR Ls bs.length all a).1 (apR Ls bs.length all a).2.1 (apR Ls bs.length all a).2.1.length) all) := by
  have hdk := wsq_dok h.dok hf (old := bs.length) (by omega) hd
  obtain ⟨m, hm⟩ : ∃ m, nW bs.length all.length = m := ⟨_, rfl⟩
  have hl1 := h.l1
  have hm2 : 1 + bs.length / 32 + m = 1 + (all.length + 31) / 32 := by unfold nW at hm; omega
  rw [hm] at hdk
  have mixj : ∀ (P : Nat → Bool) (j : Nat), j ≤ m → TG (fl P Ls (wsq all (bs.length / 32) j) (wsq all (bs.length / 32) j).length) bs := by
    intro P j hj
    have hd := hdk j hj
    refine h.mix (all := all) (fl_len P _) (fl_sec hd P _) ?_ (fun i h1 h2 => ?_) hp (by omega)
    · rw [fl_get hd P (by omega)]
      rcases rdP_wsq P Ls all (bs.length / 32) j 0 (wsq all (bs.length / 32) j).length (by rw [wsq_len]; exact Nat.le_refl _) with e | ⟨h0, _⟩
      · exact e
      · omega
    · rw [fl_get hd P h2]
      rcases rdP_wsq P Ls all (bs.length / 32) j i (wsq all (bs.length / 32) j).length (by rw [wsq_len]; exact Nat.le_refl _) with e | ⟨_, e⟩
      · exact .inl e
      · exact .inr e
  have hX := hdk m (Nat.le_refl _)
  obtain ⟨X, hXe⟩ : ∃ X, fl (fun _ => true) Ls (wsq all (bs.length / 32) m) (wsq all (bs.length / 32) m).length = X := ⟨_, rfl⟩
  have tX : TG X bs := by rw [← hXe]; exact mixj _ m (Nat.le_refl _)
  have lX : X.length = Ls.length := by rw [← hXe]; exact fl_len _ _
  have aX : ∀ i, i < Ls.length → X.getD i [] = rdP (fun _ => true) Ls i (wsq all (bs.length / 32) m) (wsq all (bs.length / 32) m).length := fun i hi => by rw [← hXe]; exact fl_get hX _ hi _
  have dX1 : DOk X [⟨0, hsec all.length⟩] := ⟨tX.l1, tX.l4, tX.s, by simp, fun w hw => by
    rw [List.mem_singleton.1 hw]
    exact ⟨by simp, by show (0 : Int) < X.length; omega, hsec_len _⟩⟩
  have g0 : ∀ P : Nat → Bool, (fl P X [⟨0, hsec all.length⟩] 1).getD 0 [] = if P 0 then hsec all.length else X.getD 0 [] := fun P => by
    rw [fl_get dX1 P (by omega)]
    cases hP : P 0 <;> simp [rdP, hP]
  have gi : ∀ (P : Nat → Bool) (i : Nat), 1 ≤ i → i < X.length → (fl P X [⟨0, hsec all.length⟩] 1).getD i [] = X.getD i [] := fun P i h1 h2 => by
    rw [fl_get dX1 P h2, rdP_miss (w := ⟨0, hsec all.length⟩) rfl (fun h => by have : (0 : Int) = i := h.2; omega)]
    rfl
  have gr : ∀ P : Nat → Bool, P 0 = true → TG (fl P X [⟨0, hsec all.length⟩] 1) all := fun P hP => by
    refine h.grow (by rw [fl_len, lX]) (fl_sec dX1 P _) (by rw [g0, hP]; rfl) (fun i h1 h2 => ?_) (fun i h1 h2 => ?_) hp hf
    · have hfi := h.fit
      rw [gi P i h1 (by omega), aX i (by omega)]
      clear g0 gi mixj
      have : ∀ j, j ≤ m → rdP (fun _ => true) Ls i (wsq all (bs.length / 32) m) j = Ls.getD i [] := by
        intro j
        induction j with
        | zero => intro _; rfl
        | succ j ih =>
          intro hj
          rw [rdP_miss (wsq_get all _ m j (by omega)) (fun h => by have : ((1 + (bs.length / 32 + j) : Nat) : Int) = i := h.2; omega)]
          exact ih (by omega)
      exact this _ (by rw [wsq_len]; exact Nat.le_refl _)
    · rw [gi P i (by omega) (by omega), aX i (by omega)]
      exact rdP_new Ls all _ m i h1 _ (by rw [wsq_len]; exact Nat.le_refl _) (by rw [wsq_len]; omega)
  have kp : ∀ P : Nat → Bool, P 0 = false → TG (fl P X [⟨0, hsec all.length⟩] 1) bs := fun P hP => by
    refine tX.mix (all := all) (by rw [fl_len]) (fl_sec dX1 P _) (by rw [g0, hP]; rfl) (fun i h1 h2 => .inl (gi P i h1 h2)) hp (by omega)
  unfold apR
  rw [hm, hXe]
  by_cases c1 : 0 ≤ a ∧ a ≤ m
  · rw [if_pos c1]
    exact ⟨hdk _ (by omega), rfl, fun h => by omega, (fun h => by cases h), fun P => .inl ⟨mixj P _ (by omega), rfl⟩⟩
  · rw [if_neg c1]
    by_cases c2 : a = m + 1
    · rw [if_pos c2]
      exact ⟨tX.dok, lX, fun h => by omega, (fun h => by cases h), fun P => .inl ⟨tX, rfl⟩⟩
    · rw [if_neg c2]
      by_cases c3 : a = m + 2
      · rw [if_pos c3]
        refine ⟨dX1, lX, fun h => by omega, (fun h => by cases h), fun P => ?_⟩
        cases hP : P 0 with
        | true => exact .inr (gr P hP)
        | false => exact .inl ⟨kp P hP, rfl⟩
      · rw [if_neg c3]
        have t := gr (fun _ => true) rfl
        exact ⟨t.dok, by rw [fl_len, lX], fun _ => rfl, fun _ => ⟨rfl, t⟩, fun P => .inr t⟩
end Go.Proofs.Ytalcpfpjkfpmbaa.Vm
