/- A text is read as it was written; each value that may be is. Conditions: none beyond the tables of utf8. -/
import Derived.Test.YtalcpfpjkfpmbaaDoorCodeI
import Derived.Test.YtalcpfpjkfpmbaaDoorCodeU
namespace Go.Proofs.YtalcpfpjkfpmbaaDoor.Vm
open Go Go.RowKit Go.Lib
set_option linter.unusedVariables false
set_option linter.unusedSimpArgs false
attribute [local irreducible] Ops Dr Run eightU turnU backU
theorem nums_byw : ∀ l : List Int, nums (l.map (PV.int .u8)) = some l
  | [] => rfl
  | c :: l => by
    simp only [List.map_cons, nums]
    rw [nums_byw l]
    rfl
theorem strOf_txB (s : ByteArray) : strOfNums (txB s) = s := by
  cases s with | mk q =>
  apply ByteArray.ext
  have e : ((fun n : Int => UInt8.ofNat n.toNat) ∘ fun c : UInt8 => ((c.toNat : Nat) : Int)) = id := funext fun c => by simp
  simp only [strOfNums, txB, List.map_map, e]
  simp
theorem esc_append : ∀ a b : List Int, esc (a ++ b) = esc a ++ esc b
  | [], b => rfl
  | c :: cs, b => by
    simp only [List.cons_append, esc]
    rw [esc_append cs b]
    split <;> rfl
theorem esc_head {L : List Int} {i : Nat} {c : Int} (h : L[i]? = some c) : (esc L ++ [0, 1])[(esc (L.take i)).length]? = some c ∧ (c = 0 → (esc L ++ [0, 1])[(esc (L.take i)).length + 1]? = some 255) ∧ (esc (L.take (i + 1))).length = (esc (L.take i)).length + (if c = 0 then 2 else 1) := by
  have hi := (List.getElem?_eq_some_iff.1 h).1
  have e : esc L = esc (L.take i) ++ esc (c :: L.drop (i + 1)) := by
    conv => lhs; rw [← List.take_append_drop i L]
    rw [esc_append, List.drop_eq_getElem_cons hi]
    rw [List.getElem?_eq_getElem hi] at h
    rw [Option.some.inj h]
  have e2 : L.take (i + 1) = L.take i ++ [c] := by rw [List.take_add_one, h]; rfl
  rw [e, e2, esc_append, List.append_assoc]
  generalize esc (L.take i) = A
  refine ⟨?_, fun hc => ?_, ?_⟩
  · rw [List.getElem?_append_right (Nat.le_refl _), Nat.sub_self]
    unfold esc
    split
    · rename_i h0; rw [h0]; rfl
    · rfl
  · rw [List.getElem?_append_right (by omega), show A.length + 1 - A.length = 1 by omega]
    unfold esc
    rw [if_pos hc]
    rfl
  · rw [List.length_append]
    simp only [esc]
    split <;> rfl
theorem esc_end (L : List Int) : (esc L ++ [0, 1])[(esc L).length]? = some 0 ∧ (esc L ++ [0, 1])[(esc L).length + 1]? = some 1 := by
  constructor
  · rw [List.getElem?_append_right (Nat.le_refl _), Nat.sub_self]; rfl
  · rw [List.getElem?_append_right (by omega), show (esc L).length + 1 - (esc L).length = 1 by omega]; rfl
theorem fnText {s : ByteArray} (hs : s.size ≤ 40) (hv : validD s.data.toList = true) {b O' rest : List Int} {p : Nat} {B : Bool} (hb : b.length ≤ 9223372036854775807) (h : b.drop p = O'.map (flipB B) ++ rest) (hO : O' = 5 :: (esc (txB s) ++ [0, 1])) :
    FnL (EnL Tryd.prog gT lnD) 41 [cloD] (bD b (p + 1) (flB B)) (.tup [.pv (.str s), .pv (.int .i64 0)]) (bD b (p + O'.length) (flB B)) := by
  have hE := EnLOk gT lnD
  have hL8 : ∀ c ∈ txB s, 0 ≤ c ∧ c < 256 := fun c hc => by
    obtain ⟨u, _, rfl⟩ := List.mem_map.1 hc
    have := u.toNat_lt
    omega
  have hLl : (txB s).length = s.size := by simp [txB]
  have hstr := strOf_txB s
  have cv := (fnValid (t0 := s.data.toList) (by simpa [txB] using (show (txB s).length ≤ 40 by omega))).lent lnD
  rw [hv, show tb s.data.toList = txB s from rfl] at cv
  have hlen : O'.length = (esc (txB s)).length + 3 := by rw [hO]; simp
  rw [hlen]
  have hat : ∀ i c, (esc (txB s) ++ [0, 1])[i]? = some c → 0 ≤ c ∧ c < 256 → FnL (EnL Tryd.prog gT lnD) 29 [.ptr 8 0, .ptr 3 0, .ptr 9 0] (bD b (p + 1 + i) (flB B)) (.tup [.pv (.int .u8 c), .pv (.bool true)]) (bD b (p + 1 + i + 1) (flB B)) := fun i c hc h8 => by
    have := next_fit (g := gT) (i := i + 1) hb h (by rw [hO]; exact hc) h8
    rwa [show p + (i + 1) = p + 1 + i by omega] at this
  have he := esc_end (txB s)
  have hE1 := hat _ _ he.1 (by omega)
  have hE2 := hat _ _ he.2 (by omega)
  have hstep := fun (i : Nat) (c : Int) (hc : (txB s)[i]? = some c) => esc_head hc
  have hz : (esc ((txB s).take 0)).length = 0 := by rw [List.take_zero]; rfl
  have hfull : (esc ((txB s).take (txB s).length)).length = (esc (txB s)).length := by rw [List.take_length]
  obtain ⟨K, hK⟩ : ∃ K : Nat → Nat, ∀ i, K i = (esc ((txB s).take i)).length := ⟨_, fun _ => rfl⟩
  rw [← hK] at hz hfull
  generalize hEn : (esc (txB s)).length = En' at *
  generalize hLd : txB s = L at *
  generalize flB B = fl at *
  clear h hO hlen he
  refine FnL.of Tryd.func41 rfl rfl rfl rfl ?_
  repeat (first | refine Run.seq ?_ | refine Run.skip ?_ | refine Run.block ?_)
  refine Run.region ?_
  refine O.assign rfl rfl ?_
  refine O.assign rfl rfl ?_
  refine O.nil ?_
  try refine Run.keep [0, 2, 3, 4, 5, 6, 7, 8, 15, 17, 24, 26, 28, 31, 38] rfl rfl ?_
  repeat (first | refine Run.seq ?_ | refine Run.skip ?_ | refine Run.block ?_)
  refine Run.region ?_
  refine O.assign rfl rfl ?_
  refine O.nil ?_
  try refine Run.keep [0, 2, 3, 4, 5, 6, 7, 8, 15, 17, 24, 26, 28, 31, 38] rfl rfl ?_
  refine Run.pre (SLe.nilBox (t := 4) (b := 133) (e := 5) (sz := 1) rfl rfl rfl rfl) ?_
  repeat (first | refine Run.seq ?_ | refine Run.skip ?_)
  refine Run.block ?_
  refine Run.loopInv (ι := Nat) (fun i => i ≤ L.length) (fun i => ⟨41, [(0, cloD), (4, .gl 133 (L.take i).length)], [(8, .var [.pv (.int .i64 ((p + 1 + K i : Nat) : Int))]), (3, .var [.pv (byv b)]), (9, .var [.pv (.int .u8 fl)]), (133, .lst 5 1 ((L.take i).map (PV.int .u8)))]⟩) (fun i => L.length - i) 0 (Nat.zero_le _) ?_ ?_
  ·
    rw [hz]
    exact SLe.drop (by repeat (first | exact TmIn.nil | refine TmIn.cons rfl ?_)) (by repeat (first | exact BxIn.nil | refine BxIn.cons rfl ?_)) rfl rfl
  rintro i hi ih
  by_cases hlt : i < L.length
  ·
    obtain ⟨c, hc⟩ : ∃ c, L[i]? = some c := ⟨_, List.getElem?_eq_getElem hlt⟩
    have hc8 := hL8 c (List.mem_of_getElem? hc)
    obtain ⟨k1, k2, k3⟩ := hstep i c hc
    rw [← hK] at k1 k2 k3
    rw [← hK] at k3
    have cn1 := hat _ _ k1 hc8
    have htk : L.take (i + 1) = L.take i ++ [c] := by rw [List.take_add_one, hc]; rfl
    have hil : (L.take i).length = i := by rw [List.length_take]; omega
    have hilm : ((L.take i).map (PV.int .u8)).length = i := by rw [List.length_map, hil]
    by_cases h0 : c = 0
    ·
      have cn2 := hat _ _ (k2 h0) (by omega)
      rw [if_pos h0] at k3
      subst h0
      have hq1 : p + 1 + (K i + 1) = p + 1 + K i + 1 := by omega
      have hq2 : p + 1 + K (i + 1) = p + 1 + K i + 1 + 1 := by omega
      rw [hq1] at cn2
      repeat (first | refine Run.seq ?_ | refine Run.skip ?_ | refine Run.block ?_)
      refine Run.region ?_
      refine O.move rfl rfl ?_
      refine O.lend (ln := lnD) cn1 rfl rfl rfl (.inl rfl) (by repeat (first | exact BxIn.nil | refine BxIn.cons rfl ?_)) rfl rfl rfl rfl rfl rfl rfl rfl rfl rfl ?_
      refine O.move rfl rfl ?_
      refine O.extract rfl rfl rfl ?_
      refine O.extract rfl rfl rfl ?_
      refine O.assign rfl rfl ?_
      refine O.assign rfl rfl ?_
      refine O.nil ?_
      try refine Run.keep [0, 2, 3, 4, 5, 6, 7, 8, 15, 17, 24, 26, 28, 31, 38] rfl rfl ?_
      repeat (first | refine Run.seq ?_ | refine Run.skip ?_ | refine Run.block ?_)
      refine Run.region ?_
      refine O.move rfl rfl ?_
      refine O.un rfl rfl rfl rfl rfl ?_
      refine O.nil ?_
      try refine Run.keep [0, 2, 3, 4, 5, 6, 7, 8, 15, 17, 24, 26, 28, 31, 38] rfl rfl ?_
      repeat (first | refine Run.seq ?_ | refine Run.skip ?_)
      first | refine Run.condT rfl rfl ?_ | refine Run.condF rfl rfl ?_ | refine Run.condT rfl (by assumption) ?_ | refine Run.condF rfl (by assumption) ?_
      repeat (first | refine Run.seq ?_ | refine Run.skip ?_ | refine Run.block ?_)
      refine Run.region ?_
      refine O.move rfl rfl ?_
      first | refine O.cmp rfl rfl rfl (by first | exact decide_eq_true (by omega) | exact decide_eq_false (by omega)) rfl ?_ | refine O.cmp rfl rfl rfl rfl rfl ?_
      refine O.nil ?_
      try refine Run.keep [0, 2, 3, 4, 5, 6, 7, 8, 15, 17, 24, 26, 28, 31, 38] rfl rfl ?_
      repeat (first | refine Run.seq ?_ | refine Run.skip ?_)
      first | refine Run.condT rfl rfl ?_ | refine Run.condF rfl rfl ?_ | refine Run.condT rfl (by assumption) ?_ | refine Run.condF rfl (by assumption) ?_
      repeat (first | refine Run.seq ?_ | refine Run.skip ?_ | refine Run.block ?_)
      refine Run.region ?_
      refine O.move rfl rfl ?_
      refine O.lend (ln := lnD) cn2 rfl rfl rfl (.inl rfl) (by repeat (first | exact BxIn.nil | refine BxIn.cons rfl ?_)) rfl rfl rfl rfl rfl rfl rfl rfl rfl rfl ?_
      refine O.move rfl rfl ?_
      refine O.extract rfl rfl rfl ?_
      refine O.extract rfl rfl rfl ?_
      refine O.assign rfl rfl ?_
      refine O.assign rfl rfl ?_
      refine O.nil ?_
      try refine Run.keep [0, 2, 3, 4, 5, 6, 7, 8, 15, 17, 24, 26, 28, 31, 38] rfl rfl ?_
      repeat (first | refine Run.seq ?_ | refine Run.skip ?_ | refine Run.block ?_)
      refine Run.region ?_
      refine O.move rfl rfl ?_
      refine O.un rfl rfl rfl rfl rfl ?_
      refine O.nil ?_
      try refine Run.keep [0, 2, 3, 4, 5, 6, 7, 8, 15, 17, 24, 26, 28, 31, 38] rfl rfl ?_
      repeat (first | refine Run.seq ?_ | refine Run.skip ?_)
      first | refine Run.condT rfl rfl ?_ | refine Run.condF rfl rfl ?_ | refine Run.condT rfl (by assumption) ?_ | refine Run.condF rfl (by assumption) ?_
      repeat (first | refine Run.seq ?_ | refine Run.skip ?_ | refine Run.block ?_)
      refine Run.region ?_
      refine O.move rfl rfl ?_
      first | refine O.cmp rfl rfl rfl (by first | exact decide_eq_true (by omega) | exact decide_eq_false (by omega)) rfl ?_ | refine O.cmp rfl rfl rfl rfl rfl ?_
      refine O.nil ?_
      try refine Run.keep [0, 2, 3, 4, 5, 6, 7, 8, 15, 17, 24, 26, 28, 31, 38] rfl rfl ?_
      repeat (first | refine Run.seq ?_ | refine Run.skip ?_)
      first | refine Run.condT rfl rfl ?_ | refine Run.condF rfl rfl ?_ | refine Run.condT rfl (by assumption) ?_ | refine Run.condF rfl (by assumption) ?_
      repeat (first | refine Run.seq ?_ | refine Run.skip ?_ | refine Run.block ?_)
      refine Run.region ?_
      refine O.move rfl rfl ?_
      first | refine O.cmp rfl rfl rfl (by first | exact decide_eq_true (by omega) | exact decide_eq_false (by omega)) rfl ?_ | refine O.cmp rfl rfl rfl rfl rfl ?_
      refine O.nil ?_
      try refine Run.keep [0, 2, 3, 4, 5, 6, 7, 8, 15, 17, 24, 26, 28, 31, 38] rfl rfl ?_
      repeat (first | refine Run.seq ?_ | refine Run.skip ?_)
      first | refine Run.condT rfl rfl ?_ | refine Run.condF rfl rfl ?_ | refine Run.condT rfl (by assumption) ?_ | refine Run.condF rfl (by assumption) ?_
      repeat (first | refine Run.seq ?_ | refine Run.skip ?_ | refine Run.block ?_)
      refine Run.region ?_
      refine O.move rfl rfl ?_
      refine O.lenLst hE T27 rfl rfl rfl (newest_gl rfl (by simp)) rfl ?_; dsimp only
      first | refine O.cmp rfl rfl rfl (by first | exact decide_eq_true (by omega) | exact decide_eq_false (by omega)) rfl ?_ | refine O.cmp rfl rfl rfl rfl rfl ?_
      refine O.nil ?_
      try refine Run.keep [0, 2, 3, 4, 5, 6, 7, 8, 15, 17, 24, 26, 28, 31, 38] rfl rfl ?_
      repeat (first | refine Run.seq ?_ | refine Run.skip ?_)
      first | refine Run.condT rfl rfl ?_ | refine Run.condF rfl rfl ?_ | refine Run.condT rfl (by assumption) ?_ | refine Run.condF rfl (by assumption) ?_
      repeat (first | refine Run.seq ?_ | refine Run.skip ?_ | refine Run.block ?_)
      refine Run.region ?_
      refine O.move rfl rfl ?_
      refine O.move rfl rfl ?_
      refine O.litV hE T27 rfl T5 rfl rfl rfl rfl rfl rfl rfl ?_
      refine O.appV (PV.int .u8) (q := L.take i) (r := [0]) hE T27 rfl T5 rfl rfl rfl rfl rfl newest_pv rfl rfl rfl rfl (by simp; omega) (by simp [maxLen]; omega) rfl ?_
      refine O.assign rfl rfl ?_
      refine O.nil ?_
      try refine Run.keep [0, 2, 3, 4, 5, 6, 7, 8, 15, 17, 24, 26, 28, 31, 38] rfl rfl ?_
      refine ih (i + 1) _ ?_ (by omega) (by omega)
      rw [htk, hq2]
      exact SLe.drop (by repeat (first | exact TmIn.nil | refine TmIn.cons rfl ?_)) (by repeat (first | exact BxIn.nil | refine BxIn.cons rfl ?_)) rfl rfl
    ·
      rw [if_neg h0] at k3
      have hq2 : p + 1 + K (i + 1) = p + 1 + K i + 1 := by omega
      repeat (first | refine Run.seq ?_ | refine Run.skip ?_ | refine Run.block ?_)
      refine Run.region ?_
      refine O.move rfl rfl ?_
      refine O.lend (ln := lnD) cn1 rfl rfl rfl (.inl rfl) (by repeat (first | exact BxIn.nil | refine BxIn.cons rfl ?_)) rfl rfl rfl rfl rfl rfl rfl rfl rfl rfl ?_
      refine O.move rfl rfl ?_
      refine O.extract rfl rfl rfl ?_
      refine O.extract rfl rfl rfl ?_
      refine O.assign rfl rfl ?_
      refine O.assign rfl rfl ?_
      refine O.nil ?_
      try refine Run.keep [0, 2, 3, 4, 5, 6, 7, 8, 15, 17, 24, 26, 28, 31, 38] rfl rfl ?_
      repeat (first | refine Run.seq ?_ | refine Run.skip ?_ | refine Run.block ?_)
      refine Run.region ?_
      refine O.move rfl rfl ?_
      refine O.un rfl rfl rfl rfl rfl ?_
      refine O.nil ?_
      try refine Run.keep [0, 2, 3, 4, 5, 6, 7, 8, 15, 17, 24, 26, 28, 31, 38] rfl rfl ?_
      repeat (first | refine Run.seq ?_ | refine Run.skip ?_)
      first | refine Run.condT rfl rfl ?_ | refine Run.condF rfl rfl ?_ | refine Run.condT rfl (by assumption) ?_ | refine Run.condF rfl (by assumption) ?_
      repeat (first | refine Run.seq ?_ | refine Run.skip ?_ | refine Run.block ?_)
      refine Run.region ?_
      refine O.move rfl rfl ?_
      first | refine O.cmp rfl rfl rfl (by first | exact decide_eq_true (by omega) | exact decide_eq_false (by omega)) rfl ?_ | refine O.cmp rfl rfl rfl rfl rfl ?_
      refine O.nil ?_
      try refine Run.keep [0, 2, 3, 4, 5, 6, 7, 8, 15, 17, 24, 26, 28, 31, 38] rfl rfl ?_
      repeat (first | refine Run.seq ?_ | refine Run.skip ?_)
      first | refine Run.condT rfl rfl ?_ | refine Run.condF rfl rfl ?_ | refine Run.condT rfl (by assumption) ?_ | refine Run.condF rfl (by assumption) ?_
      repeat (first | refine Run.seq ?_ | refine Run.skip ?_ | refine Run.block ?_)
      refine Run.region ?_
      refine O.move rfl rfl ?_
      refine O.lenLst hE T27 rfl rfl rfl (newest_gl rfl (by simp)) rfl ?_; dsimp only
      first | refine O.cmp rfl rfl rfl (by first | exact decide_eq_true (by omega) | exact decide_eq_false (by omega)) rfl ?_ | refine O.cmp rfl rfl rfl rfl rfl ?_
      refine O.nil ?_
      try refine Run.keep [0, 2, 3, 4, 5, 6, 7, 8, 15, 17, 24, 26, 28, 31, 38] rfl rfl ?_
      repeat (first | refine Run.seq ?_ | refine Run.skip ?_)
      first | refine Run.condT rfl rfl ?_ | refine Run.condF rfl rfl ?_ | refine Run.condT rfl (by assumption) ?_ | refine Run.condF rfl (by assumption) ?_
      repeat (first | refine Run.seq ?_ | refine Run.skip ?_ | refine Run.block ?_)
      refine Run.region ?_
      refine O.move rfl rfl ?_
      refine O.move rfl rfl ?_
      refine O.litV hE T27 rfl T5 rfl rfl rfl rfl rfl rfl rfl ?_
      refine O.appV (PV.int .u8) (q := L.take i) (r := [c]) hE T27 rfl T5 rfl rfl rfl rfl rfl newest_pv rfl rfl rfl rfl (by simp; omega) (by simp [maxLen]; omega) rfl ?_
      refine O.assign rfl rfl ?_
      refine O.nil ?_
      try refine Run.keep [0, 2, 3, 4, 5, 6, 7, 8, 15, 17, 24, 26, 28, 31, 38] rfl rfl ?_
      refine ih (i + 1) _ ?_ (by omega) (by omega)
      rw [htk, hq2]
      exact SLe.drop (by repeat (first | exact TmIn.nil | refine TmIn.cons rfl ?_)) (by repeat (first | exact BxIn.nil | refine BxIn.cons rfl ?_)) rfl rfl
  have hi' : i = L.length := by omega
  subst hi'
  rw [List.take_length, hfull]
  have hq3 : p + (En' + 3) = p + 1 + En' + 1 + 1 := by omega
  have hq4 : p + 1 + (En' + 1) = p + 1 + En' + 1 := by omega
  rw [hq4] at hE2
  rw [hq3]
  repeat (first | refine Run.seq ?_ | refine Run.skip ?_ | refine Run.block ?_)
  refine Run.region ?_
  refine O.move rfl rfl ?_
  refine O.lend (ln := lnD) hE1 rfl rfl rfl (.inl rfl) (by repeat (first | exact BxIn.nil | refine BxIn.cons rfl ?_)) rfl rfl rfl rfl rfl rfl rfl rfl rfl rfl ?_
  refine O.move rfl rfl ?_
  refine O.extract rfl rfl rfl ?_
  refine O.extract rfl rfl rfl ?_
  refine O.assign rfl rfl ?_
  refine O.assign rfl rfl ?_
  refine O.nil ?_
  try refine Run.keep [0, 2, 3, 4, 5, 6, 7, 8, 15, 17, 24, 26, 28, 31, 38] rfl rfl ?_
  repeat (first | refine Run.seq ?_ | refine Run.skip ?_ | refine Run.block ?_)
  refine Run.region ?_
  refine O.move rfl rfl ?_
  refine O.un rfl rfl rfl rfl rfl ?_
  refine O.nil ?_
  try refine Run.keep [0, 2, 3, 4, 5, 6, 7, 8, 15, 17, 24, 26, 28, 31, 38] rfl rfl ?_
  repeat (first | refine Run.seq ?_ | refine Run.skip ?_)
  first | refine Run.condT rfl rfl ?_ | refine Run.condF rfl rfl ?_ | refine Run.condT rfl (by assumption) ?_ | refine Run.condF rfl (by assumption) ?_
  repeat (first | refine Run.seq ?_ | refine Run.skip ?_ | refine Run.block ?_)
  refine Run.region ?_
  refine O.move rfl rfl ?_
  first | refine O.cmp rfl rfl rfl (by first | exact decide_eq_true (by omega) | exact decide_eq_false (by omega)) rfl ?_ | refine O.cmp rfl rfl rfl rfl rfl ?_
  refine O.nil ?_
  try refine Run.keep [0, 2, 3, 4, 5, 6, 7, 8, 15, 17, 24, 26, 28, 31, 38] rfl rfl ?_
  repeat (first | refine Run.seq ?_ | refine Run.skip ?_)
  first | refine Run.condT rfl rfl ?_ | refine Run.condF rfl rfl ?_ | refine Run.condT rfl (by assumption) ?_ | refine Run.condF rfl (by assumption) ?_
  repeat (first | refine Run.seq ?_ | refine Run.skip ?_ | refine Run.block ?_)
  refine Run.region ?_
  refine O.move rfl rfl ?_
  refine O.lend (ln := lnD) hE2 rfl rfl rfl (.inl rfl) (by repeat (first | exact BxIn.nil | refine BxIn.cons rfl ?_)) rfl rfl rfl rfl rfl rfl rfl rfl rfl rfl ?_
  refine O.move rfl rfl ?_
  refine O.extract rfl rfl rfl ?_
  refine O.extract rfl rfl rfl ?_
  refine O.assign rfl rfl ?_
  refine O.assign rfl rfl ?_
  refine O.nil ?_
  try refine Run.keep [0, 2, 3, 4, 5, 6, 7, 8, 15, 17, 24, 26, 28, 31, 38] rfl rfl ?_
  repeat (first | refine Run.seq ?_ | refine Run.skip ?_ | refine Run.block ?_)
  refine Run.region ?_
  refine O.move rfl rfl ?_
  refine O.un rfl rfl rfl rfl rfl ?_
  refine O.nil ?_
  try refine Run.keep [0, 2, 3, 4, 5, 6, 7, 8, 15, 17, 24, 26, 28, 31, 38] rfl rfl ?_
  repeat (first | refine Run.seq ?_ | refine Run.skip ?_)
  first | refine Run.condT rfl rfl ?_ | refine Run.condF rfl rfl ?_ | refine Run.condT rfl (by assumption) ?_ | refine Run.condF rfl (by assumption) ?_
  repeat (first | refine Run.seq ?_ | refine Run.skip ?_ | refine Run.block ?_)
  refine Run.region ?_
  refine O.move rfl rfl ?_
  first | refine O.cmp rfl rfl rfl (by first | exact decide_eq_true (by omega) | exact decide_eq_false (by omega)) rfl ?_ | refine O.cmp rfl rfl rfl rfl rfl ?_
  refine O.nil ?_
  try refine Run.keep [0, 2, 3, 4, 5, 6, 7, 8, 15, 17, 24, 26, 28, 31, 38] rfl rfl ?_
  repeat (first | refine Run.seq ?_ | refine Run.skip ?_)
  first | refine Run.condT rfl rfl ?_ | refine Run.condF rfl rfl ?_ | refine Run.condT rfl (by assumption) ?_ | refine Run.condF rfl (by assumption) ?_
  refine Run.exit ?_
  repeat (first | refine thenR_exit ?_ | refine roundR_exit ?_ | refine blockR_exit ?_ | refine blockR_pass rfl ?_)
  refine Run.pre (s1 := ⟨41, [(4, .pv (byv L))], bD b (p + 1 + En' + 1 + 1) fl⟩) ?_ ?_
  ·
    refine SLe.by rfl ?_ ?_ rfl rfl <;> repeat (first | exact TmLe.nil | exact BxsLe.nil | refine TmLe.cons (AVle.of_eq rfl) ?_ | refine TmLe.cons (AVle.lst _ _ _ (lstOf_glV rfl (by simp))) ?_ | refine BxsLe.cons rfl (.refl _) ?_)
  repeat (first | refine Run.seq ?_ | refine Run.skip ?_ | refine Run.block ?_)
  refine Run.region ?_
  refine O.move rfl rfl ?_
  refine O.callE cv rfl (by first | rfl | simp [closed, men3, mens2_app, mens2_ints, mens2, men2, men1, mens1_app, mens1_ints, mens1]) (by first | rfl | simp [d2, ds1_ints, ds1_app, ds1, d1, ds0_app, ds0_ints, ds0, d0]) rfl ?_
  refine O.un rfl rfl rfl rfl rfl ?_
  refine O.nil ?_
  try refine Run.keep [0, 2, 3, 4, 5, 6, 7, 8, 15, 17, 24, 26, 28, 31, 38] rfl rfl ?_
  repeat (first | refine Run.seq ?_ | refine Run.skip ?_)
  first | refine Run.condT rfl rfl ?_ | refine Run.condF rfl rfl ?_ | refine Run.condT rfl (by assumption) ?_ | refine Run.condF rfl (by assumption) ?_
  repeat (first | refine Run.seq ?_ | refine Run.skip ?_ | refine Run.block ?_)
  refine Run.region ?_
  refine O.move rfl rfl ?_
  refine O.str hE T27 rfl T5 rfl T9 rfl rfl rfl newest_pv (nums_byw _) hstr rfl ?_
  refine O.assign rfl rfl ?_
  refine O.assign rfl rfl ?_
  refine O.nil ?_
  try refine Run.keep [0, 2, 3, 4, 5, 6, 7, 8, 15, 17, 24, 26, 28, 31, 38] rfl rfl ?_
  refine Run.ret ?_
  repeat (first | refine thenR_ret ?_ | refine roundR_ret ?_ | refine blockR_ret ?_)
  exact Ends.of hE (.inr rfl) rfl rfl (SLe.drop (by repeat (first | exact TmIn.nil | refine TmIn.cons rfl ?_)) (by repeat (first | exact BxIn.nil | refine BxIn.cons rfl ?_)) rfl rfl)
end Go.Proofs.YtalcpfpjkfpmbaaDoor.Vm
