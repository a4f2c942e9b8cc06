/- CrcXor: the CRC-32C of the sum, bit by bit, of three lists of bytes is the sum of their CRC-32Cs: for every three lists of bytes the law's pure form tells true. Conditions: none beyond the arguments' own kinds and sizes. -/
import Derived.Test.YtgkfmaiepjjgkaaMathCrc
import Derived.Test.YtgkfmaiepjjgkaaQCrcXorx2
namespace Go.Proofs.Ytgkfmaiepjjgkaa.Pure
open Go.RowKit Go.Proofs.Ytgkfmaiepjjgkaa.QCrcXor Go.Proofs.YtgkfmaiepjjgkaaW.PrintWords Go.Proofs.YtgkfmaiepjjgkaaW.PrintLast

set_option linter.unusedVariables false
set_option linter.unusedSimpArgs false

open MathCrc in
theorem crc_inner (l : List Int) (i : Int) (r : Int) (n : Nat) : ∀ (j : Int) (c : BitVec 32), j + n = 8 → 0 ≤ j →
    Ev (fun k => sum_Crc.l0 k ((iter n c).toNat : Int) l (l.length : Int) (wrap64 (i + 1))) r →
    Ev (fun k => sum_Crc.l1 k (c.toNat : Int) l (l.length : Int) i j) r := by
  induction n with
  | zero =>
    intro j c hj h0 h
    refine Ev.step (f := fun k => sum_Crc.l0 k ((iter 0 c).toNat : Int) l (l.length : Int) (wrap64 (i + 1))) (fun k => ?_) h
    simp only [sum_Crc.l1]
    rw [if_neg (by omega)]
    rfl
  | succ n ih =>
    intro j c hj h0 h
    have hw : wrap64 (j + 1) = j + 1 := by unfold wrap64; omega
    refine Ev.step (f := fun k => sum_Crc.l1 k ((MathCrc.step c).toNat : Int) l (l.length : Int) i (j + 1)) (fun k => ?_) (ih (j + 1) (MathCrc.step c) (by omega) (by omega) h)
    simp only [sum_Crc.l1]
    rw [if_pos (by omega), hw]
    cases hb : c.getLsbD 0 with
    | true => rw [if_pos ((bits_and1 c).mpr hb), step_true c hb]
    | false => rw [if_neg (fun h => by rw [(bits_and1 c).mp h] at hb; cases hb), step_false c hb]
open MathCrc in
theorem crc_outer (l : List Int) (hb : ∀ x ∈ l, 0 ≤ x ∧ x < 256) (hl : l.length < 9223372036854775807) (d : Nat) : ∀ (i : Nat) (c : BitVec 32), i + d = l.length →
    Ev (fun k => sum_Crc.l0 k (c.toNat : Int) l (l.length : Int) (i : Int)) ((4294967295#32 ^^^ run c (l.drop i)).toNat : Int) := by
  induction d with
  | zero =>
    intro i c hi
    refine Ev.step (f := fun _ => some ((4294967295#32 ^^^ run c (l.drop i)).toNat : Int)) (fun k => ?_) (Ev.now _)
    simp only [sum_Crc.l0]
    rw [if_neg (by omega), List.drop_of_length_le (by omega), run_nil, ← bits_xor32]
    rfl
  | succ d ih =>
    intro i c hi
    have hlt : i < l.length := by omega
    have hx := hb _ (List.getElem_mem hlt)
    have hw : wrap64 ((i : Int) + 1) = ((i + 1 : Nat) : Int) := by unfold wrap64; omega
    have hrd : rd l (i : Int) = l[i] := by unfold rd; simp [List.getD_eq_getElem?_getD, List.getElem?_eq_getElem hlt]
    refine Ev.step (f := fun k => sum_Crc.l1 k ((c ^^^ BitVec.ofInt 32 l[i]).toNat : Int) l (l.length : Int) (i : Int) 0) (fun k => ?_) ?_
    · simp only [sum_Crc.l0]
      rw [if_pos (by omega), if_pos (by omega), if_pos (by omega), hrd]
      have e : l[i] % 4294967296 = ((BitVec.ofInt 32 l[i]).toNat : Int) := by rw [byte_toNat _ hx]; omega
      rw [e, bits_xor32]
    · refine crc_inner l (i : Int) _ 8 0 _ (by omega) (by omega) ?_
      rw [hw, List.drop_eq_getElem_cons hlt, run_cons]
      exact ih (i + 1) (iter 8 (c ^^^ BitVec.ofInt 32 l[i])) (by omega)
open MathCrc in
theorem crc_ev (l : List Int) (hb : ∀ x ∈ l, 0 ≤ x ∧ x < 256) (hl : l.length < 9223372036854775807) : Ev (fun k => sum_Crc.f k l) (crc l) := by
  have h := crc_outer l hb hl l.length 0 4294967295#32 (by omega)
  exact h
theorem u8_of {l : List Int} (h : ∀ x ∈ l, (Lit.int .u8 x).wf = true) : ∀ x ∈ l, 0 ≤ x ∧ x < 256 := by
  intro x hx
  have := h x hx
  simp [Lit.wf, IntKind.min, IntKind.max, IntKind.signed, IntKind.bits] at this
  omega

open MathCrc in
theorem xor8 (a b : Int) (ha : 0 ≤ a ∧ a < 256) (hb : 0 ≤ b ∧ b < 256) : 0 ≤ Go.bits .xor .u8 a b ∧ Go.bits .xor .u8 a b < 256 ∧ BitVec.ofInt 32 (Go.bits .xor .u8 a b) = BitVec.ofInt 32 a ^^^ BitVec.ofInt 32 b := by
  obtain ⟨x, rfl⟩ := Int.eq_ofNat_of_zero_le ha.1
  obtain ⟨y, rfl⟩ := Int.eq_ofNat_of_zero_le hb.1
  have hx : x < 2 ^ 8 := by omega
  have hy : y < 2 ^ 8 := by omega
  have e : Go.bits .xor .u8 (x : Int) (y : Int) = ((x ^^^ y : Nat) : Int) := by
    show IntKind.u8.wrap (((BitVec.ofInt 8 (x : Int) ^^^ BitVec.ofInt 8 (y : Int)).toNat : Nat) : Int) = _
    rw [BitVec.ofInt_natCast, BitVec.ofInt_natCast, BitVec.toNat_xor, BitVec.toNat_ofNat, BitVec.toNat_ofNat, Nat.mod_eq_of_lt hx, Nat.mod_eq_of_lt hy, IntKind.wrap_u8]
    have := Nat.xor_lt_two_pow hx hy
    omega
  have h2 := Nat.xor_lt_two_pow hx hy
  rw [e]
  refine ⟨by omega, by omega, ?_⟩
  apply BitVec.eq_of_toNat_eq
  rw [BitVec.toNat_xor, BitVec.ofInt_natCast, BitVec.ofInt_natCast, BitVec.ofInt_natCast, BitVec.toNat_ofNat, BitVec.toNat_ofNat, BitVec.toNat_ofNat, Nat.mod_eq_of_lt (by omega), Nat.mod_eq_of_lt (by omega), Nat.mod_eq_of_lt (by omega)]
def x3 (a b c : Int) : Int := Go.bits .xor .u8 (Go.bits .xor .u8 a b) c
open MathCrc in
theorem run_x3 : ∀ (n : Nat) (a b c d : List Int) (p q s t : BitVec 32), a.length = n → b.length = n → c.length = n → d.length = n →
    (∀ x ∈ a, 0 ≤ x ∧ x < 256) → (∀ x ∈ b, 0 ≤ x ∧ x < 256) → (∀ x ∈ c, 0 ≤ x ∧ x < 256) →
    (∀ i : Nat, i < n → rd d i = x3 (rd a i) (rd b i) (rd c i)) → t = p ^^^ q ^^^ s → run t d = run p a ^^^ run q b ^^^ run s c
  | 0, a, b, c, d, p, q, s, t, ha, hb, hc, hd, _, _, _, _, ht => by
    rw [List.length_eq_zero_iff.mp ha, List.length_eq_zero_iff.mp hb, List.length_eq_zero_iff.mp hc, List.length_eq_zero_iff.mp hd]
    exact ht
  | n + 1, a, b, c, d, p, q, s, t, ha, hb, hc, hd, ra, rb, rc, he, ht => by
    match a, b, c, d, ha, hb, hc, hd with
    | x :: a, y :: b, z :: c, v :: d, ha, hb, hc, hd =>
      have h0 : v = x3 x y z := he 0 (by omega)
      have hx := ra x (by simp)
      have hy := rb y (by simp)
      have hz := rc z (by simp)
      have h1 := xor8 x y hx hy
      have h2 := xor8 _ z ⟨h1.1, h1.2.1⟩ hz
      rw [run_cons, run_cons, run_cons, run_cons]
      refine run_x3 n a b c d _ _ _ _ (by simpa using ha) (by simpa using hb) (by simpa using hc) (by simpa using hd) (fun x hx => ra x (by simp [hx])) (fun x hx => rb x (by simp [hx])) (fun x hx => rc x (by simp [hx])) (fun i hi => ?_) ?_
      · have := he (i + 1) (by omega)
        simpa [rd, show ((i : Int) + 1).toNat = i + 1 from by omega] using this
      · unfold eat
        rw [← iter_xor, ← iter_xor, h0, ht]
        unfold x3
        rw [h2.2.2, h1.2.2]
        rw [xor6]
theorem take_rd {l : List Int} {n i : Nat} (hi : i < n) (hn : n ≤ l.length) : rd (l.take n) (i : Int) = rd l (i : Int) := by
  unfold rd
  simp [List.getD_eq_getElem?_getD, hi]
theorem bytes_take {l : List Int} (n : Nat) (h : ∀ x ∈ l, 0 ≤ x ∧ x < 256) : ∀ x ∈ l.take n, 0 ≤ x ∧ x < 256 := fun x hx => h x (List.mem_of_mem_take hx)
theorem fill (a b c : List Int) (n : Nat) (ha : n ≤ a.length) (hb : n ≤ b.length) (hc : n ≤ c.length) (m : Int) (hn : n < 9223372036854775807) (r : Bool)
    (H : ∀ d' : List Int, d'.length = n → (∀ i : Nat, i < n → rd d' i = x3 (rd a i) (rd b i) (rd c i)) → Ev (fun k => chirographkeep_CrcXor.l0 k a b c m d' (n : Int) (n : Int)) r) (q : Nat) : ∀ (i : Nat) (d : List Int), i + q = n → d.length = n →
    (∀ j : Nat, j < i → rd d j = x3 (rd a j) (rd b j) (rd c j)) → Ev (fun k => chirographkeep_CrcXor.l0 k a b c m d (n : Int) (i : Int)) r := by
  induction q with
  | zero =>
    intro i d hi hd he
    obtain rfl : i = n := by omega
    exact H d hd he
  | succ q ih =>
    intro i d hi hd he
    have hw : wrap64 ((i : Int) + 1) = ((i + 1 : Nat) : Int) := by unfold wrap64; omega
    refine Ev.step (f := fun k => chirographkeep_CrcXor.l0 k a b c m (d.set i (x3 (rd a i) (rd b i) (rd c i))) (n : Int) ((i + 1 : Nat) : Int)) (fun k => ?_) (ih (i + 1) _ (by omega) (by simpa using hd) (fun j hj => ?_))
    · simp only [chirographkeep_CrcXor.l0]
      rw [if_pos (by omega), if_pos (by omega), if_pos (by omega), if_pos (by omega), if_pos (by omega), if_pos (by omega), hw]
      rfl
    · by_cases hji : j = i
      · subst hji
        unfold rd
        simp only [List.getD_eq_getElem?_getD, Int.toNat_natCast]
        rw [List.getElem?_set_self (by omega)]
        rfl
      · rw [← he j (by omega)]
        unfold rd
        simp only [List.getD_eq_getElem?_getD, Int.toNat_natCast]
        rw [List.getElem?_set_ne (fun h => hji h.symm)]
theorem min_facts (x y z : Nat) : 0 ≤ mn (mn (mn (x : Int) y) z) 200 ∧ mn (mn (mn (x : Int) y) z) 200 ≤ x ∧ mn (mn (mn (x : Int) y) z) 200 ≤ y ∧ mn (mn (mn (x : Int) y) z) 200 ≤ z ∧ mn (mn (mn (x : Int) y) z) 200 ≤ 200 := by
  unfold mn
  (repeat' split) <;> omega
open MathCrc in
theorem CrcXor : chirographkeep_CrcXor.Pure := by
  intro a b c _ _ wa _ _ wb _ _ wc
  have ra := u8_of wa
  have rb := u8_of wb
  have rc := u8_of wc
  obtain ⟨m0, m1, m2, m3, m4⟩ := min_facts a.length b.length c.length
  apply Ev.rounds
  unfold chirographkeep_CrcXor.f
  generalize mn (mn (mn (a.length : Int) b.length) c.length) 200 = m at *
  obtain ⟨n, rfl⟩ := Int.eq_ofNat_of_zero_le m0
  rw [Int.toNat_natCast]
  simp only [if_pos m0, if_pos (show n ≤ 281474976710656 by omega), Option.bind_some, List.length_replicate]
  refine fill a b c n (by omega) (by omega) (by omega) _ (by omega) true (fun d hd he => ?_) n 0 _ (by omega) (by simp) (fun j hj => by omega)
  have hrun := run_x3 n (a.take n) (b.take n) (c.take n) d 4294967295#32 4294967295#32 4294967295#32 4294967295#32 (by rw [List.length_take]; omega) (by rw [List.length_take]; omega) (by rw [List.length_take]; omega) hd (bytes_take n ra) (bytes_take n rb) (bytes_take n rc)
    (fun i hi => by rw [he i hi, take_rd hi (by omega), take_rd hi (by omega), take_rd hi (by omega)]) (by decide)
  have rd_ : ∀ x ∈ d, 0 ≤ x ∧ x < 256 := by
    intro x hx
    obtain ⟨i, hi, rfl⟩ := List.mem_iff_getElem.1 hx
    have h1 := he i (by omega)
    have h2 : rd d (i : Int) = d[i] := by unfold rd; simp [List.getD_eq_getElem?_getD, List.getElem?_eq_getElem hi]
    rw [← h2, h1]
    have g : ∀ l : List Int, (∀ x ∈ l, 0 ≤ x ∧ x < 256) → n ≤ l.length → 0 ≤ rd l (i : Int) ∧ rd l (i : Int) < 256 := by
      intro l hl hn
      unfold rd
      simp only [List.getD_eq_getElem?_getD, Int.toNat_natCast]
      rw [List.getElem?_eq_getElem (by omega)]
      exact hl _ (List.getElem_mem _)
    have k1 := xor8 _ _ (g a ra (by omega)) (g b rb (by omega))
    have k2 := xor8 _ _ ⟨k1.1, k1.2.1⟩ (g c rc (by omega))
    exact ⟨k2.1, k2.2.1⟩
  have e : crc d = Go.bits .xor .u32 (Go.bits .xor .u32 (crc (a.take n)) (crc (b.take n))) (crc (c.take n)) := by
    unfold crc
    rw [bits_xor32, bits_xor32, hrun, ← xor6]
    rfl
  refine Ev.step (f := fun k => (sum_Crc.f k d).bind fun t109 => (sum_Crc.f k (a.take n)).bind fun t111 => (sum_Crc.f k (b.take n)).bind fun t113 => (sum_Crc.f k (c.take n)).bind fun t115 =>
      (if t109 = (Go.bits .xor .u32 (Go.bits .xor .u32 t111 t113) t115) then ((sum_Crc.f k (([1] : List Int))).bind fun t119 => ((sum_Crc.f k (([2] : List Int))).bind fun t123 => (some (t119 != t123)))) else (some false))) (fun k => ?_) ?_
  · simp only [chirographkeep_CrcXor.l0]
    rw [if_neg (by omega)]
    simp only [if_pos m0, if_pos m1, if_pos m2, if_pos m3, Int.toNat_natCast]
  · refine Ev.bind (crc_ev d rd_ (by omega)) ?_
    refine Ev.bind (crc_ev _ (bytes_take n ra) (by rw [List.length_take]; omega)) ?_
    refine Ev.bind (crc_ev _ (bytes_take n rb) (by rw [List.length_take]; omega)) ?_
    refine Ev.bind (crc_ev _ (bytes_take n rc) (by rw [List.length_take]; omega)) ?_
    simp only [if_pos e]
    refine Ev.bind (crc_ev [1] (by simp) (by simp)) ?_
    refine Ev.bind (crc_ev [2] (by simp) (by simp)) ?_
    have : (crc [1] != crc [2]) = true := by decide +kernel
    rw [this]
    exact Ev.now true

end Go.Proofs.Ytgkfmaiepjjgkaa.Pure
