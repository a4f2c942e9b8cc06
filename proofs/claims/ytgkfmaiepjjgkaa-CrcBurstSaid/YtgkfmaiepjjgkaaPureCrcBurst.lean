/- CrcBurst: what is changed within four bytes is told by the CRC-32C: for every list of bytes, place and four bytes the law's pure form tells true. Conditions: none beyond the arguments' own kinds and sizes. -/
import Derived.Lib.Bytes
import Derived.Test.YtgkfmaiepjjgkaaMathCrc
import Derived.Test.YtgkfmaiepjjgkaaQCrcBurstx1
namespace Go.Proofs.Ytgkfmaiepjjgkaa.Pure
open Go.RowKit Go.Proofs.Ytgkfmaiepjjgkaa.QCrcBurst Go.Proofs.YtgkfmaiepjjgkaaW.PrintWords Go.Proofs.YtgkfmaiepjjgkaaW.PrintLast

set_option linter.unusedVariables false
set_option linter.unusedSimpArgs false

open MathCrc in
theorem crc_inner (l : List Int) (i : Int) (r : Int) (n : Nat) : ∀ (j : Int) (c : BitVec 32), j + n = 8 → 0 ≤ j →
    Ev (fun k => sum_Crc.l0 k ((iter n c).toNat : Int) l (l.length : Int) (wrap64 (i + 1))) r →
    Ev (fun k => sum_Crc.l1 k (c.toNat : Int) l (l.length : Int) i j) r := by
  induction n with
  | zero =>
    intro j c hj h0 h
    refine Ev.step (f := fun k => sum_Crc.l0 k ((iter 0 c).toNat : Int) l (l.length : Int) (wrap64 (i + 1))) (fun k => ?_) h
    simp only [sum_Crc.l1]
    rw [if_neg (by omega)]
    rfl
  | succ n ih =>
    intro j c hj h0 h
    have hw : wrap64 (j + 1) = j + 1 := by unfold wrap64; omega
    refine Ev.step (f := fun k => sum_Crc.l1 k ((MathCrc.step c).toNat : Int) l (l.length : Int) i (j + 1)) (fun k => ?_) (ih (j + 1) (MathCrc.step c) (by omega) (by omega) h)
    simp only [sum_Crc.l1]
    rw [if_pos (by omega), hw]
    cases hb : c.getLsbD 0 with
    | true => rw [if_pos ((bits_and1 c).mpr hb), step_true c hb]
    | false => rw [if_neg (fun h => by rw [(bits_and1 c).mp h] at hb; cases hb), step_false c hb]
open MathCrc in
theorem crc_outer (l : List Int) (hb : ∀ x ∈ l, 0 ≤ x ∧ x < 256) (hl : l.length < 9223372036854775807) (d : Nat) : ∀ (i : Nat) (c : BitVec 32), i + d = l.length →
    Ev (fun k => sum_Crc.l0 k (c.toNat : Int) l (l.length : Int) (i : Int)) ((4294967295#32 ^^^ run c (l.drop i)).toNat : Int) := by
  induction d with
  | zero =>
    intro i c hi
    refine Ev.step (f := fun _ => some ((4294967295#32 ^^^ run c (l.drop i)).toNat : Int)) (fun k => ?_) (Ev.now _)
    simp only [sum_Crc.l0]
    rw [if_neg (by omega), List.drop_of_length_le (by omega), run_nil, ← bits_xor32]
    rfl
  | succ d ih =>
    intro i c hi
    have hlt : i < l.length := by omega
    have hx := hb _ (List.getElem_mem hlt)
    have hw : wrap64 ((i : Int) + 1) = ((i + 1 : Nat) : Int) := by unfold wrap64; omega
    have hrd : rd l (i : Int) = l[i] := by unfold rd; simp [List.getD_eq_getElem?_getD, List.getElem?_eq_getElem hlt]
    refine Ev.step (f := fun k => sum_Crc.l1 k ((c ^^^ BitVec.ofInt 32 l[i]).toNat : Int) l (l.length : Int) (i : Int) 0) (fun k => ?_) ?_
    · simp only [sum_Crc.l0]
      rw [if_pos (by omega), if_pos (by omega), if_pos (by omega), hrd]
      have e : l[i] % 4294967296 = ((BitVec.ofInt 32 l[i]).toNat : Int) := by rw [byte_toNat _ hx]; omega
      rw [e, bits_xor32]
    · refine crc_inner l (i : Int) _ 8 0 _ (by omega) (by omega) ?_
      rw [hw, List.drop_eq_getElem_cons hlt, run_cons]
      exact ih (i + 1) (iter 8 (c ^^^ BitVec.ofInt 32 l[i])) (by omega)
open MathCrc in
theorem crc_ev (l : List Int) (hb : ∀ x ∈ l, 0 ≤ x ∧ x < 256) (hl : l.length < 9223372036854775807) : Ev (fun k => sum_Crc.f k l) (crc l) := by
  have h := crc_outer l hb hl l.length 0 4294967295#32 (by omega)
  exact h
theorem u8_of {l : List Int} (h : ∀ x ∈ l, (Lit.int .u8 x).wf = true) : ∀ x ∈ l, 0 ≤ x ∧ x < 256 := by
  intro x hx
  have := h x hx
  simp [Lit.wf, IntKind.min, IntKind.max, IntKind.signed, IntKind.bits] at this
  omega

theorem picked_emod (a m : Int) (hm : 0 < m) (hm2 : m < 9223372036854775808) : chirographkeep_picked.f a m = some (a % m) := by
  unfold chirographkeep_picked.f
  rw [if_neg (by omega)]
  have h0 := Int.emod_nonneg a (show m ≠ 0 by omega)
  have h1 := Int.emod_lt_of_pos a hm
  have e : Int.tmod a m = a % m ∨ (Int.tmod a m = a % m - m ∧ 0 < a % m) := by
    rw [Int.tmod_eq_emod]
    split
    · left; omega
    · right
      have : ¬ m ∣ a := fun h => by simp_all
      have := Int.emod_pos_of_not_dvd this
      omega
  rcases e with e | ⟨e, hp⟩
  · rw [e, if_neg (by omega)]
  · rw [e, if_pos (by omega)]; unfold wrap64; congr 1; omega

theorem str_same {a b : List Int} (ha : ∀ x ∈ a, 0 ≤ x ∧ x < 256) (hb : ∀ x ∈ b, 0 ≤ x ∧ x < 256) : (strOfNums a).toList = (strOfNums b).toList ↔ a = b := by
  constructor
  · intro h
    rw [Lib.strOfNums_toList, Lib.strOfNums_toList] at h
    have h2 := congrArg (List.map fun u : UInt8 => (u.toNat : Int)) h
    simp only [Lib.bytesOf, List.map_map] at h2
    have e : ∀ l : List Int, (∀ x ∈ l, 0 ≤ x ∧ x < 256) → l.map ((fun u : UInt8 => (u.toNat : Int)) ∘ fun n => UInt8.ofNat n.toNat) = l := fun l hl => by
      conv => rhs; rw [← List.map_id l]
      apply List.map_congr_left
      intro n hn
      have := hl n hn
      simp
      omega
    rw [e a ha, e b hb] at h2
    exact h2
  · rintro rfl
    rfl
open MathCrc in
theorem xor8 (a b : Int) (ha : 0 ≤ a ∧ a < 256) (hb : 0 ≤ b ∧ b < 256) : 0 ≤ Go.bits .xor .u8 a b ∧ Go.bits .xor .u8 a b < 256 ∧ BitVec.ofInt 32 (Go.bits .xor .u8 a b) = BitVec.ofInt 32 a ^^^ BitVec.ofInt 32 b := by
  obtain ⟨x, rfl⟩ := Int.eq_ofNat_of_zero_le ha.1
  obtain ⟨y, rfl⟩ := Int.eq_ofNat_of_zero_le hb.1
  have hx : x < 2 ^ 8 := by omega
  have hy : y < 2 ^ 8 := by omega
  have e : Go.bits .xor .u8 (x : Int) (y : Int) = ((x ^^^ y : Nat) : Int) := by
    show IntKind.u8.wrap (((BitVec.ofInt 8 (x : Int) ^^^ BitVec.ofInt 8 (y : Int)).toNat : Nat) : Int) = _
    rw [BitVec.ofInt_natCast, BitVec.ofInt_natCast, BitVec.toNat_xor, BitVec.toNat_ofNat, BitVec.toNat_ofNat, Nat.mod_eq_of_lt hx, Nat.mod_eq_of_lt hy, IntKind.wrap_u8]
    have := Nat.xor_lt_two_pow hx hy
    omega
  have h2 := Nat.xor_lt_two_pow hx hy
  rw [e]
  refine ⟨by omega, by omega, ?_⟩
  apply BitVec.eq_of_toNat_eq
  rw [BitVec.toNat_xor, BitVec.ofInt_natCast, BitVec.ofInt_natCast, BitVec.ofInt_natCast, BitVec.toNat_ofNat, BitVec.toNat_ofNat, BitVec.toNat_ofNat, Nat.mod_eq_of_lt (by omega), Nat.mod_eq_of_lt (by omega), Nat.mod_eq_of_lt (by omega)]
/-- A list with the bytes of another one mixed into it from its start on. -/
def mix : List Int → List Int → List Int
  | x :: l, v :: vs => Go.bits .xor .u8 x v :: mix l vs
  | l, _ => l
theorem mix_nil (l : List Int) : mix l [] = l := by cases l <;> rfl
theorem mix_bytes : ∀ (l vs : List Int), (∀ x ∈ l, 0 ≤ x ∧ x < 256) → (∀ x ∈ vs, 0 ≤ x ∧ x < 256) → ∀ x ∈ mix l vs, 0 ≤ x ∧ x < 256
  | [], _, h, _ => h
  | x :: l, [], h, _ => h
  | x :: l, v :: vs, h, g => by
    intro y hy
    have h1 := xor8 x v (h x (by simp)) (g v (by simp))
    rcases List.mem_cons.1 hy with e | e
    · rw [e]; exact ⟨h1.1, h1.2.1⟩
    · exact mix_bytes l vs (fun z hz => h z (by simp [hz])) (fun z hz => g z (by simp [hz])) y e
open MathCrc in
theorem shl_iter (n : Nat) : ∀ x : BitVec 32, n ≤ 32 → (∀ i, 32 - n ≤ i → x.getLsbD i = false) → iter n (x <<< n) = x := by
  induction n with
  | zero => intro x _ _; exact BitVec.shiftLeft_zero x
  | succ n ih =>
    intro x hn hx
    have e : x <<< (n + 1) = (x <<< n) <<< 1 := (BitVec.shiftLeft_add x n 1)
    rw [e]
    show iter n (MathCrc.step ((x <<< n) <<< 1)) = x
    rw [step_shl]
    · exact ih x (by omega) (fun i hi => hx i (by omega))
    · rw [BitVec.getLsbD_shiftLeft, hx (31 - n) (by omega)]
      simp
open MathCrc in
theorem byte_high (v : Int) (hv : 0 ≤ v ∧ v < 256) (i : Nat) (hi : 8 ≤ i) : (BitVec.ofInt 32 v).getLsbD i = false := by
  have h := byte_toNat v hv
  rw [BitVec.getLsbD]
  apply Nat.testBit_lt_two_pow
  have h2 : 2 ^ 8 ≤ 2 ^ i := Nat.pow_le_pow_right (by omega) hi
  omega
open MathCrc in
theorem iter_inj (n : Nat) {x y : BitVec 32} (h : iter n x = iter n y) : x = y := by
  have h0 : iter n (x ^^^ y) = 0#32 := by rw [iter_xor, h, BitVec.xor_self]
  have h1 := iter_ne n h0
  rw [← xor_back y x, BitVec.xor_comm y x, h1, BitVec.xor_zero]
open MathCrc in
theorem run_back : ∀ (l : List Int) (s d : BitVec 32), run (s ^^^ d) l = run s l → d = 0#32
  | [], s, d, h => by
    have h1 : s ^^^ d = s := h
    rw [← xor_back s d, h1, BitVec.xor_self]
  | x :: l, s, d, h => by
    rw [run_cons, run_cons] at h
    have e : eat (s ^^^ d) x = eat s x ^^^ iter 8 d := by
      have h1 := eat_xor s d x x
      rw [BitVec.xor_self, BitVec.xor_zero] at h1
      rw [← h1, BitVec.xor_comm (eat (s ^^^ d) x), xor_back]
    rw [e] at h
    exact iter_ne 8 (run_back l _ _ h)
open MathCrc in
theorem burst : ∀ (m : Nat) (l vs : List Int) (s d : BitVec 32), vs.length ≤ m → m ≤ 4 → (∀ x ∈ l, 0 ≤ x ∧ x < 256) → (∀ x ∈ vs, 0 ≤ x ∧ x < 256) → run (s ^^^ d) (mix l vs) = run s l →
    (∀ i, 8 * m ≤ i → d.getLsbD i = false) ∧ (d = 0#32 → mix l vs = l)
  | _, l, [], s, d, _, _, _, _, h => by
    rw [mix_nil] at h
    have := run_back l s d h
    subst this
    exact ⟨fun i _ => BitVec.getLsbD_zero, fun _ => mix_nil l⟩
  | _, [], v :: vs, s, d, _, _, _, _, h => by
    have := run_back [] s d h
    subst this
    exact ⟨fun i _ => BitVec.getLsbD_zero, fun _ => rfl⟩
  | 0, _, v :: vs, _, _, hm, _, _, _, _ => absurd hm (by simp)
  | m + 1, x :: l, v :: vs, s, d, hm, h4, hl, hv, h => by
    have hx := hl x (by simp)
    have hv0 := hv v (by simp)
    have hxv := xor8 x v hx hv0
    have h' : run (eat (s ^^^ d) (Go.bits .xor .u8 x v)) (mix l vs) = run (eat s x) l := h
    have e : eat (s ^^^ d) (Go.bits .xor .u8 x v) = eat s x ^^^ iter 8 (d ^^^ BitVec.ofInt 32 v) := by
      have h1 := eat_xor s d (Go.bits .xor .u8 x v) x
      rw [hxv.2.2, BitVec.xor_comm (BitVec.ofInt 32 x), BitVec.xor_assoc, BitVec.xor_self, BitVec.xor_zero] at h1
      rw [← h1, BitVec.xor_comm (eat (s ^^^ d) _), xor_back]
    rw [e] at h'
    obtain ⟨g1, g2⟩ := burst m l vs (eat s x) _ (by simpa using hm) (by omega) (fun z hz => hl z (by simp [hz])) (fun z hz => hv z (by simp [hz])) h'
    generalize hd' : iter 8 (d ^^^ BitVec.ofInt 32 v) = d' at g1 g2
    have e2 : d ^^^ BitVec.ofInt 32 v = d' <<< 8 := iter_inj 8 (by rw [hd', shl_iter 8 d' (by omega) (fun i hi => g1 i (by omega))])
    have e3 : d = BitVec.ofInt 32 v ^^^ (d' <<< 8) := by rw [← e2, BitVec.xor_comm d, xor_back]
    constructor
    · intro i hi
      rw [e3, BitVec.getLsbD_xor, byte_high v hv0 i (by omega), BitVec.getLsbD_shiftLeft, g1 (i - 8) (by omega)]
      simp
    · intro hd
      have e4 : BitVec.ofInt 32 v = d' <<< 8 := by
        rw [hd] at e2
        rw [← e2, BitVec.zero_xor]
      have hz : d' = 0#32 := by
        apply BitVec.eq_of_getLsbD_eq
        intro i hi
        rw [BitVec.getLsbD_zero]
        by_cases hi24 : 24 ≤ i
        · exact g1 i (by omega)
        · have this : (BitVec.ofInt 32 v).getLsbD (i + 8) = (d' <<< 8).getLsbD (i + 8) := by rw [e4]
          rw [byte_high v hv0 (i + 8) (by omega), BitVec.getLsbD_shiftLeft] at this
          simpa [show i + 8 < 32 by omega, show ¬ (i + 8 < 8) by omega] using this.symm
      have hv1 : v = 0 := by
        have h1 := byte_toNat v hv0
        rw [e4, hz] at h1
        simpa using h1.symm
      have hx1 : Go.bits .xor .u8 x v = x := by
        have h1 := byte_toNat _ ⟨hxv.1, hxv.2.1⟩
        rw [hxv.2.2, hv1] at h1
        rw [hv1, ← h1]
        have h2 := byte_toNat x hx
        simpa using h2
      show Go.bits .xor .u8 x v :: mix l vs = x :: l
      rw [hx1, g2 hz]
/-- A byte mixed into a list at a place, if it is there. -/
def put1 (c : List Int) (j : Nat) (v : Int) : List Int := if j < c.length then c.set j (Go.bits .xor .u8 (c.getD j 0) v) else c
def puts (c : List Int) (j : Nat) : List Int → List Int
  | [] => c
  | v :: vs => puts (put1 c j v) (j + 1) vs
theorem put1_length (c : List Int) (j : Nat) (v : Int) : (put1 c j v).length = c.length := by unfold put1; split <;> simp
theorem puts_length : ∀ (vs c : List Int) (j : Nat), (puts c j vs).length = c.length
  | [], _, _ => rfl
  | v :: vs, c, j => by show (puts (put1 c j v) (j + 1) vs).length = _; rw [puts_length vs, put1_length]
theorem puts_mix : ∀ (vs p l : List Int), puts (p ++ l) p.length vs = p ++ mix l vs
  | [], p, l => by rw [mix_nil]; rfl
  | v :: vs, p, [] => by
    show puts (put1 (p ++ []) p.length v) (p.length + 1) vs = p ++ []
    have h : ∀ (vs c : List Int) (j : Nat), c.length ≤ j → puts c j vs = c := by
      intro vs
      induction vs with
      | nil => intro c j _; rfl
      | cons w ws ih =>
        intro c j hj
        show puts (put1 c j w) (j + 1) ws = c
        have e : put1 c j w = c := by unfold put1; rw [if_neg (by omega)]
        rw [e]; exact ih c (j + 1) (by omega)
    exact h (v :: vs) (p ++ []) p.length (by simp)
  | v :: vs, p, x :: l => by
    show puts (put1 (p ++ x :: l) p.length v) (p.length + 1) vs = p ++ (Go.bits .xor .u8 x v :: mix l vs)
    have e : put1 (p ++ x :: l) p.length v = (p ++ [Go.bits .xor .u8 x v]) ++ l := by
      unfold put1
      rw [if_pos (by simp)]
      simp [List.getD_eq_getElem?_getD]
    have h := puts_mix vs (p ++ [Go.bits .xor .u8 x v]) l
    rw [List.length_append] at h
    rw [e]
    simpa using h
open MathCrc in
theorem CrcBurst : chirographkeep_CrcBurst.Pure := by
  intro l0 a v0 v1 v2 v3 _ _ wl wa w0 w1 w2 w3
  have rl := u8_of wl
  have rv : ∀ x ∈ [v0, v1, v2, v3], 0 ≤ x ∧ x < 256 := u8_of (fun x hx => by
    simp only [List.mem_cons, List.not_mem_nil, or_false] at hx
    rcases hx with h | h | h | h <;> rw [h] <;> assumption)
  apply Ev.rounds
  unfold chirographkeep_CrcBurst.f
  have m0 : 0 ≤ mn (l0.length : Int) 200 ∧ mn (l0.length : Int) 200 ≤ l0.length ∧ mn (l0.length : Int) 200 ≤ 200 := by
    unfold mn
    split <;> omega
  generalize mn (l0.length : Int) 200 = n at *
  obtain ⟨n, rfl⟩ := Int.eq_ofNat_of_zero_le m0.1
  rw [Int.toNat_natCast]
  have hb : (l0.take n).length = n := by rw [List.length_take]; omega
  have rb : ∀ x ∈ l0.take n, 0 ≤ x ∧ x < 256 := fun x hx => rl x (List.mem_of_mem_take hx)
  generalize l0.take n = b at hb rb
  subst hb
  have hw : wrap64 ((b.length : Int) + 1) = (b.length : Int) + 1 := by unfold wrap64; omega
  have hp := picked_emod a ((b.length : Int) + 1) (by omega) (by omega)
  simp only [if_pos m0.1, if_pos m0.2.1, Option.bind_some, List.nil_append, List.length_nil, Nat.zero_add, if_pos (show b.length < 140737488355328 by omega), hw, hp]
  have t0 := Int.emod_nonneg a (show (b.length : Int) + 1 ≠ 0 by omega)
  have t1 := Int.emod_lt_of_pos a (show (0 : Int) < (b.length : Int) + 1 by omega)
  generalize a % ((b.length : Int) + 1) = t at t0 t1
  obtain ⟨t, rfl⟩ := Int.eq_ofNat_of_zero_le t0
  have hround : ∀ (i : Nat) (c : List Int) (r : Bool), i < 4 → c.length = b.length → Ev (fun k => chirographkeep_CrcBurst.l0 k b (put1 c (t + i) ([v0, v1, v2, v3].getD i 0)) (t : Int) ((i + 1 : Nat) : Int) v0 v1 v2 v3) r → Ev (fun k => chirographkeep_CrcBurst.l0 k b c (t : Int) (i : Int) v0 v1 v2 v3) r := by
    intro i c r hi hc h
    have e1 : wrap64 ((t : Int) + (i : Int)) = ((t + i : Nat) : Int) := by unfold wrap64; omega
    have e2 : wrap64 ((i : Int) + 1) = ((i + 1 : Nat) : Int) := by unfold wrap64; omega
    refine Ev.step (fun k => ?_) h
    simp only [chirographkeep_CrcBurst.l0]
    rw [if_pos (by omega), if_pos (by omega), if_pos (by omega), e1, e2]
    unfold put1
    by_cases hj : t + i < c.length
    · rw [if_pos (by omega), if_pos (by omega), if_pos hj]
      rfl
    · rw [if_neg (by omega), if_neg hj]
  refine hround 0 b _ (by omega) rfl ?_
  refine hround 1 _ _ (by omega) (by simp only [put1_length]) ?_
  refine hround 2 _ _ (by omega) (by simp only [put1_length]) ?_
  refine hround 3 _ _ (by omega) (by simp only [put1_length]) ?_
  have hsplit : b = b.take t ++ b.drop t := (List.take_append_drop t b).symm
  have hlt : (b.take t).length = t := by rw [List.length_take]; omega
  have hc : put1 (put1 (put1 (put1 b (t + 0) ([v0, v1, v2, v3].getD 0 0)) (t + 1) ([v0, v1, v2, v3].getD 1 0)) (t + 2) ([v0, v1, v2, v3].getD 2 0)) (t + 3) ([v0, v1, v2, v3].getD 3 0) = b.take t ++ mix (b.drop t) [v0, v1, v2, v3] := by
    have h := puts_mix [v0, v1, v2, v3] (b.take t) (b.drop t)
    rw [← hsplit, hlt] at h
    exact h
  rw [hc]
  have rd1 : ∀ x ∈ b.drop t, 0 ≤ x ∧ x < 256 := fun x hx => rb x (List.mem_of_mem_drop hx)
  have rc : ∀ x ∈ b.take t ++ mix (b.drop t) [v0, v1, v2, v3], 0 ≤ x ∧ x < 256 := by
    intro x hx
    rcases List.mem_append.1 hx with h | h
    · exact rb x (List.mem_of_mem_take h)
    · exact mix_bytes _ _ rd1 rv x h
  have hcl : (b.take t ++ mix (b.drop t) [v0, v1, v2, v3]).length = b.length := by
    rw [← hc]
    simp only [put1_length]
  have hsame : crc b = crc (b.take t ++ mix (b.drop t) [v0, v1, v2, v3]) ↔ b = b.take t ++ mix (b.drop t) [v0, v1, v2, v3] := by
    constructor
    · intro h
      have h1 : run 4294967295#32 (b.take t ++ b.drop t) = run 4294967295#32 (b.take t ++ mix (b.drop t) [v0, v1, v2, v3]) := by
        rw [← hsplit]
        have h2 : (4294967295#32 ^^^ run 4294967295#32 b).toNat = (4294967295#32 ^^^ run 4294967295#32 (b.take t ++ mix (b.drop t) [v0, v1, v2, v3])).toNat := by
          unfold crc at h
          omega
        have h3 := congrArg (fun z => 4294967295#32 ^^^ z) (BitVec.eq_of_toNat_eq h2)
        simpa only [xor_back] using h3
      rw [run_append, run_append] at h1
      have h4 := (burst 4 (b.drop t) [v0, v1, v2, v3] (run 4294967295#32 (b.take t)) 0#32 (by simp) (by omega) rd1 rv (by rw [BitVec.xor_zero]; exact h1.symm)).2 rfl
      rw [h4]
      exact hsplit
    · intro h
      exact congrArg crc h
  generalize b.take t ++ mix (b.drop t) [v0, v1, v2, v3] = c at *
  refine Ev.step (f := fun k => (sum_Crc.f k b).bind fun t113 => ((sum_Crc.f k c).bind fun t114 => (if ((t113 == t114) == ((strOfNums b).toList == (strOfNums c).toList)) = true then ((sum_Crc.f k (([1] : List Int))).bind fun t118 => ((sum_Crc.f k (([2] : List Int))).bind fun t122 => (some (t118 != t122)))) else (some false)))) (fun k => ?_) ?_
  · simp only [chirographkeep_CrcBurst.l0]
    rw [if_neg (by omega)]
  · refine Ev.bind (crc_ev b rb (by omega)) ?_
    refine Ev.bind (crc_ev c rc (by omega)) ?_
    have e : ((crc b == crc c) == ((strOfNums b).toList == (strOfNums c).toList)) = true := by
      rw [beq_iff_eq, Bool.eq_iff_iff, beq_iff_eq, beq_iff_eq, str_same rb rc]
      exact hsame
    simp only [if_pos e]
    refine Ev.bind (crc_ev [1] (by simp) (by simp)) ?_
    refine Ev.bind (crc_ev [2] (by simp) (by simp)) ?_
    have : (crc [1] != crc [2]) = true := by decide +kernel
    rw [this]
    exact Ev.now true

end Go.Proofs.Ytgkfmaiepjjgkaa.Pure
