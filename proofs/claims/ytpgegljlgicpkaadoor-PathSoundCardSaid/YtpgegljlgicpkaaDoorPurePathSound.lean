/- PathSound: nothing else is proved of a slot, whatever is handed in as a proof: for all lists of raw things, whole numbers, raw things and lists of bytes the law's pure form tells true. Conditions: none beyond the arguments' own kinds and sizes. -/
import Derived.Lib.Bytes
import Derived.Test.YtpgegljlgicpkaaDoorQPathSoundx7
namespace Go.Proofs.YtpgegljlgicpkaaDoor.Pure
open Go.RowKit Go.Proofs.YtpgegljlgicpkaaDoor.QPathSound Go.Proofs.YtpgegljlgicpkaaDoorW.PrintWords Go.Proofs.YtpgegljlgicpkaaDoorW.PrintLast

set_option linter.unusedVariables false
set_option linter.unusedSimpArgs false

/-! ### frames, as lists of numbers -/
def four (n : Int) : List Int := [(n / 16777216) % 256, (n / 65536) % 256, (n / 256) % 256, n % 256]
def cat (ps : List (List Int)) : List Int := ps.flatMap fun p => four (p.length : Int) ++ p
def frameL (t : Int) (ps : List (List Int)) : List Int := [t % 256, (ps.length : Int) % 256] ++ cat ps
theorem four_length (n : Int) : (four n).length = 4 := rfl
theorem cat_nil : cat [] = [] := rfl
theorem cat_cons (p : List Int) (ps : List (List Int)) : cat (p :: ps) = four (p.length : Int) ++ p ++ cat ps := by unfold cat; rw [List.flatMap_cons]
theorem cat_append (ps qs : List (List Int)) : cat (ps ++ qs) = cat ps ++ cat qs := by unfold cat; rw [List.flatMap_append]
theorem cat_part {ps : List (List Int)} {i : Nat} (h : i < ps.length) : (cat (ps.drop i)).length = 4 + ps[i].length + (cat (ps.drop (i + 1))).length := by
  rw [List.drop_eq_getElem_cons h, cat_cons]
  simp only [List.length_append, four_length]
theorem rdLL_at {ps : List (List Int)} {i : Nat} (h : i < ps.length) : rd_L5 ps (i : Int) = ps[i] := by
  unfold rd_L5
  simp [List.getD_eq_getElem?_getD, List.getElem?_eq_getElem h]
theorem rd_at {l : List Int} {i : Nat} (h : i < l.length) : rd l (i : Int) = l[i] := by
  unfold rd
  simp [List.getD_eq_getElem?_getD, List.getElem?_eq_getElem h]
theorem w64 (x : Int) (h : -9223372036854775808 ≤ x ∧ x < 9223372036854775808) : wrap64 x = x := by unfold wrap64; omega

theorem frame_loop (ps : List (List Int)) (hps : ps.length < 1000000) (d : Nat) : ∀ (i : Nat) (out : List Int), i + d = ps.length → (out ++ cat (ps.drop i)).length < 140737488355328 →
    Ev (fun k => oracle_frame.l0 k out ps (ps.length : Int) (i : Int)) (out ++ cat (ps.drop i)) := by
  induction d with
  | zero =>
    intro i out hi hl
    refine Ev.step (f := fun _ => some (out ++ cat (ps.drop i))) (fun k => ?_) (Ev.now _)
    simp only [oracle_frame.l0]
    rw [if_neg (by omega), List.drop_of_length_le (by omega), cat_nil, List.append_nil]
  | succ d ih =>
    intro i out hi hl
    have hlt : i < ps.length := by omega
    have hp := cat_part hlt
    rw [List.length_append, hp] at hl
    have hw : wrap64 ((i : Int) + 1) = ((i + 1 : Nat) : Int) := by rw [w64 _ (by omega)]; omega
    have e : out ++ cat (ps.drop i) = (out ++ four (ps[i].length : Int) ++ ps[i]) ++ cat (ps.drop (i + 1)) := by
      rw [List.drop_eq_getElem_cons hlt, cat_cons]
      simp only [List.append_assoc]
    rw [e]
    refine Ev.step (f := fun k => oracle_frame.l0 k (out ++ four (ps[i].length : Int) ++ ps[i]) ps (ps.length : Int) ((i + 1 : Nat) : Int)) (fun k => ?_) (ih (i + 1) (out ++ four (ps[i].length : Int) ++ ps[i]) (by omega) (by simp only [List.length_append, four_length]; omega))
    simp only [oracle_frame.l0]
    rw [if_pos (by omega), if_pos (by omega), if_pos (by omega), rdLL_at hlt]
    simp only [oracle_four.f, Option.bind_some]
    rw [if_pos (by simp only [List.length_cons, List.length_nil]; omega), if_pos (by simp only [List.length_append, List.length_cons, List.length_nil]; omega), hw]
    rfl
theorem frame_ev (t : Int) (ps : List (List Int)) (hps : ps.length < 1000000) (hl : (frameL t ps).length < 140737488355328) : Ev (fun k => oracle_frame.f k t ps) (frameL t ps) := by
  have h := frame_loop ps hps ps.length 0 [t % 256, (ps.length : Int) % 256] (by omega) (by simpa [frameL] using hl)
  exact h
theorem Frame_loop (t : Int) (ps : List (List Int)) (hps : ps.length ≤ 8) (hl : (frameL t ps).length ≤ 16777216) (d : Nat) : ∀ (i : Nat) (all : Int), i + d = ps.length → all + (cat (ps.drop i)).length = (frameL t ps).length → 0 ≤ all →
    Ev (fun k => oracle_Frame.l0 k t ps all ps (ps.length : Int) (i : Int)) (frameL t ps, 0) := by
  induction d with
  | zero =>
    intro i all hi ha h0
    rw [List.drop_of_length_le (by omega), cat_nil] at ha
    simp only [List.length_nil] at ha
    refine Ev.step (f := fun k => (oracle_frame.f k t ps).bind fun t118 => some (t118, 0)) (fun k => ?_) (Ev.bind (frame_ev t ps (by omega) (by omega)) (Ev.now _))
    simp only [oracle_Frame.l0]
    rw [if_neg (by omega), if_neg (by omega)]
  | succ d ih =>
    intro i all hi ha h0
    have hlt : i < ps.length := by omega
    have hp := cat_part hlt
    have hw : wrap64 ((i : Int) + 1) = ((i + 1 : Nat) : Int) := by rw [w64 _ (by omega)]; omega
    refine Ev.step (f := fun k => oracle_Frame.l0 k t ps (all + (4 + (ps[i].length : Int))) ps (ps.length : Int) ((i + 1 : Nat) : Int)) (fun k => ?_) (ih (i + 1) (all + (4 + (ps[i].length : Int))) (by omega) (by omega) (by omega))
    simp only [oracle_Frame.l0]
    rw [if_pos (by omega), if_pos (by omega), if_pos (by omega), rdLL_at hlt, if_neg (by omega), hw, w64 (4 + _) (by omega), w64 (all + _) (by omega)]
theorem Frame_ok (t : Int) (ps : List (List Int)) (ht : 1 ≤ t ∧ t ≤ 9) (hps : ps.length ≤ 8) (hl : (frameL t ps).length ≤ 16777216) : Ev (fun k => oracle_Frame.f k t ps) (frameL t ps, 0) := by
  have h := Frame_loop t ps hps hl ps.length 0 2 (by omega) (by simp [frameL]; omega) (by omega)
  refine Ev.congr (f := fun k => oracle_Frame.j0 k t ps false) (fun k => ?_) ?_
  · simp only [oracle_Frame.f]
    rw [if_neg (by omega), decide_eq_false (by omega)]
  · refine Ev.step (f := fun k => oracle_Frame.l0 k t ps 2 ps (ps.length : Int) 0) (fun k => ?_) h
    simp only [oracle_Frame.j0]
    rw [if_neg (by simp), if_neg (by omega)]
theorem four_bytes (a : Int) : ∀ x ∈ four a, 0 ≤ x ∧ x < 256 := by
  intro x hx
  simp [four] at hx
  omega

/-! ### frames taken apart -/
def be4 (b : List Int) : Int := b.getD 0 0 * 16777216 + b.getD 1 0 * 65536 + b.getD 2 0 * 256 + b.getD 3 0
def Bytes (b : List Int) : Prop := ∀ x ∈ b, 0 ≤ x ∧ x < 256
def pl (t : Int) : Nat → List Int → List (List Int) → Int × List (List Int) × Int
  | 0, b, acc => if b.length > 0 then (0, [], 3) else (t, acc, 0)
  | n + 1, b, acc => if b.length < 4 then (0, [], 4) else if ((b.drop 4).length : Int) < be4 b then (0, [], 4) else pl t n ((b.drop 4).drop (be4 b).toNat) (acc ++ [(b.drop 4).take (be4 b).toNat])
def parse (b : List Int) : Int × List (List Int) × Int :=
  if b.length > 16777216 then (0, [], 1) else if b.length < 1 then (0, [], 4) else if b.getD 0 0 < 1 ∨ b.getD 0 0 > 9 then (0, [], 6) else
    if b.length < 2 then (0, [], 4) else if b.getD 1 0 > 8 then (0, [], 1) else pl (b.getD 0 0) (b.getD 1 0).toNat (b.drop 2) []
theorem Bytes.at_ {b : List Int} (h : Bytes b) (i : Nat) : 0 ≤ b.getD i 0 ∧ b.getD i 0 < 256 := by
  rw [List.getD_eq_getElem?_getD]
  by_cases hi : i < b.length
  · rw [List.getElem?_eq_getElem hi]; exact h _ (List.getElem_mem hi)
  · rw [List.getElem?_eq_none (by omega)]; simp
theorem Bytes.drop {b : List Int} (h : Bytes b) (n : Nat) : Bytes (b.drop n) := fun x hx => h x (List.mem_of_mem_drop hx)
theorem Bytes.take {b : List Int} (h : Bytes b) (n : Nat) : Bytes (b.take n) := fun x hx => h x (List.mem_of_mem_take hx)
theorem join63 (i : Nat) (x y : Int) (h0 : 0 ≤ x) (h1 : x % 2 ^ i = 0) (h2 : x < 2 ^ 63) (h3 : 0 ≤ y) (h4 : y < 2 ^ i) (h5 : y < 2 ^ 63) : Go.bits .or .i64 x y = x + y :=
  bits_join .i64 63 (by decide) (fun n h0 h1 => by rw [IntKind.wrap_i64]; omega) i x y h0 h1 h2 h3 h4 h5
theorem or4 (a b c d : Int) (ha : 0 ≤ a ∧ a < 256) (hb : 0 ≤ b ∧ b < 256) (hc : 0 ≤ c ∧ c < 256) (hd : 0 ≤ d ∧ d < 256) :
    (Go.bits .or .i64 (Go.bits .or .i64 (Go.bits .or .i64 (wrap64 ((wrap64 a) * 16777216)) (wrap64 ((wrap64 b) * 65536))) (wrap64 ((wrap64 c) * 256))) (wrap64 d)) = a * 16777216 + b * 65536 + c * 256 + d := by
  rw [w64 a (by omega), w64 b (by omega), w64 c (by omega), w64 d (by omega), w64 (a * _) (by omega), w64 (b * _) (by omega), w64 (c * _) (by omega)]
  rw [join63 24 (a * 16777216) (b * 65536) (by omega) (by omega) (by omega) (by omega) (by omega) (by omega)]
  rw [join63 16 _ (c * 256) (by omega) (by omega) (by omega) (by omega) (by omega) (by omega)]
  rw [join63 8 _ d (by omega) (by omega) (by omega) (by omega) (by omega) (by omega)]
theorem be4_range {b : List Int} (h : Bytes b) : 0 ≤ be4 b ∧ be4 b < 4294967296 := by
  have := h.at_ 0; have := h.at_ 1; have := h.at_ 2; have := h.at_ 3
  unfold be4
  omega
theorem rd_be4 {b : List Int} (h : Bytes b) : (Go.bits .or .i64 (Go.bits .or .i64 (Go.bits .or .i64 (wrap64 ((wrap64 (rd b 0)) * 16777216)) (wrap64 ((wrap64 (rd b 1)) * 65536))) (wrap64 ((wrap64 (rd b 2)) * 256))) (wrap64 (rd b 3))) = be4 b :=
  or4 _ _ _ _ (h.at_ 0) (h.at_ 1) (h.at_ 2) (h.at_ 3)

/-! ### what was put together is taken apart -/
theorem be4_four (n : Int) (h : 0 ≤ n ∧ n < 4294967296) (r : List Int) : be4 (four n ++ r) = n := by
  simp [four, be4]
  omega
theorem pl_cat (t : Int) : ∀ (ps acc : List (List Int)), (∀ p ∈ ps, p.length < 4294967296) → pl t ps.length (cat ps) acc = (t, acc ++ ps, 0)
  | [], acc, _ => by simp [pl, cat]
  | p :: ps, acc, h => by
    have hp := h p List.mem_cons_self
    have hb : be4 (cat (p :: ps)) = p.length := by
      rw [cat_cons, List.append_assoc]
      exact be4_four _ (by omega) _
    have hd : (cat (p :: ps)).drop 4 = p ++ cat ps := by
      rw [cat_cons, List.append_assoc]
      rfl
    have hl : (cat (p :: ps)).length = 4 + p.length + (cat ps).length := by
      rw [cat_cons]
      simp only [List.length_append, four_length]
    simp only [List.length_cons, pl]
    rw [if_neg (by omega), hb, hd, if_neg (by rw [List.length_append]; omega), Int.toNat_natCast, List.drop_left, List.take_left, pl_cat t ps (acc ++ [p]) (fun q hq => h q (List.mem_cons_of_mem _ hq)), List.append_assoc]
    rfl
theorem parse_frame (t : Int) (ps : List (List Int)) (ht : 1 ≤ t ∧ t ≤ 9) (hn : ps.length ≤ 8) (hl : (frameL t ps).length ≤ 16777216) (hp : ∀ p ∈ ps, p.length < 4294967296) : parse (frameL t ps) = (t, ps, 0) := by
  have h0 : (frameL t ps).getD 0 0 = t := by
    show t % 256 = t
    omega
  have h1 : (frameL t ps).getD 1 0 = ps.length := by
    show (ps.length : Int) % 256 = ps.length
    omega
  have h2 : 2 ≤ (frameL t ps).length := by simp [frameL]
  have h3 : (frameL t ps).drop 2 = cat ps := rfl
  unfold parse
  rw [if_neg (by omega), if_neg (by omega), h0, if_neg (by omega), if_neg (by omega), h1, if_neg (by omega), h3, Int.toNat_natCast, pl_cat t ps [] hp]
  rfl
theorem cat_free : ∀ (p q : List (List Int)) (z z2 : List Int), (∀ x ∈ p, x.length < 4294967296) → (∀ x ∈ q, x.length < 4294967296) → p.length = q.length → cat p ++ z = cat q ++ z2 → p = q
  | [], [], _, _, _, _, _, _ => rfl
  | [], _ :: _, _, _, _, _, h, _ => by simp at h
  | _ :: _, [], _, _, _, _, h, _ => by simp at h
  | x :: p, y :: q, z, z2, hp, hq, hl, h => by
    have hx := hp x List.mem_cons_self
    have hy := hq y List.mem_cons_self
    rw [cat_cons, cat_cons] at h
    simp only [List.append_assoc] at h
    have hb : (x.length : Int) = y.length := by
      rw [← be4_four x.length (by omega) (x ++ (cat p ++ z)), ← be4_four y.length (by omega) (y ++ (cat q ++ z2)), h]
    have hd : x ++ (cat p ++ z) = y ++ (cat q ++ z2) := by
      have := congrArg (List.drop 4) h
      exact this
    obtain ⟨e1, e2⟩ := List.append_inj hd (by omega)
    have := cat_free p q z z2 (fun w hw => hp w (List.mem_cons_of_mem _ hw)) (fun w hw => hq w (List.mem_cons_of_mem _ hw)) (by simpa using hl) e2
    rw [e1, this]
theorem frame_free {t u : Int} {p q : List (List Int)} {z z2 : List Int} (ht : 1 ≤ t ∧ t ≤ 9) (hu : 1 ≤ u ∧ u ≤ 9) (hn : p.length ≤ 8) (hm : q.length ≤ 8) (hp : ∀ x ∈ p, x.length < 4294967296) (hq : ∀ x ∈ q, x.length < 4294967296)
    (h : frameL t p ++ z = frameL u q ++ z2) : t = u ∧ p = q := by
  have h0 : t % 256 = u % 256 := by
    have := congrArg (fun l : List Int => l.getD 0 0) h
    exact this
  have h1 : (p.length : Int) % 256 = (q.length : Int) % 256 := by
    have := congrArg (fun l : List Int => l.getD 1 0) h
    exact this
  have h2 : cat p ++ z = cat q ++ z2 := by
    have := congrArg (List.drop 2) h
    exact this
  exact ⟨by omega, cat_free p q z z2 hp hq (by omega) h2⟩
theorem frame_cut {t u : Int} {p q : List (List Int)} (ht : 1 ≤ t ∧ t ≤ 9) (hu : 1 ≤ u ∧ u ≤ 9) (hn : p.length ≤ 8) (hm : q.length ≤ 8) (hp : ∀ x ∈ p, x.length < 4294967296) (hq : ∀ x ∈ q, x.length < 4294967296) (n : Nat)
    (hl : n = (frameL t p).length ∨ n = (frameL u q).length) (hle : n ≤ (frameL t p).length ∧ n ≤ (frameL u q).length) (h : (frameL t p).take n = (frameL u q).take n) : t = u ∧ p = q := by
  rcases hl with e | e
  · have h1 : frameL t p ++ (frameL u q).drop n = frameL u q ++ [] := by
      rw [List.append_nil]
      have h2 : (frameL t p).take n = frameL t p := List.take_of_length_le (by omega)
      rw [← h2, h, List.take_append_drop]
    exact frame_free ht hu hn hm hp hq h1
  · have h1 : frameL t p ++ [] = frameL u q ++ (frameL t p).drop n := by
      rw [List.append_nil]
      have h2 : (frameL u q).take n = frameL u q := List.take_of_length_le (by omega)
      rw [← h2, ← h, List.take_append_drop]
    exact frame_free ht hu hn hm hp hq h1

/-! ### lists of bytes, compared -/
theorem str_iff {a b : List Int} (ha : Bytes a) (hb : Bytes b) : (strOfNums a).toList = (strOfNums b).toList ↔ a = b := by
  constructor
  · intro h
    rw [Lib.strOfNums_toList, Lib.strOfNums_toList] at h
    have h2 := congrArg (List.map fun u : UInt8 => (u.toNat : Int)) h
    simp only [Lib.bytesOf, List.map_map] at h2
    have e : ∀ l : List Int, Bytes l → l.map ((fun u : UInt8 => (u.toNat : Int)) ∘ fun n => UInt8.ofNat n.toNat) = l := fun l hl => by
      conv => rhs; rw [← List.map_id l]
      apply List.map_congr_left
      intro n hn
      have := hl n hn
      simp
      omega
    rw [e a ha, e b hb] at h2
    exact h2
  · rintro rfl
    rfl

theorem frame_len (t : Int) (ps : List (List Int)) : (frameL t ps).length = 2 + (cat ps).length := by
  simp only [frameL, List.length_append, List.length_cons, List.length_nil]
theorem bytes_cat : ∀ (ps : List (List Int)), (∀ p ∈ ps, Bytes p) → Bytes (cat ps)
  | [], _, x, hx => by simp [cat] at hx
  | p :: ps, h, x, hx => by
    rw [cat_cons] at hx
    rcases List.mem_append.1 hx with hx | hx
    · rcases List.mem_append.1 hx with hx | hx
      · exact four_bytes _ x hx
      · exact h p List.mem_cons_self x hx
    · exact bytes_cat ps (fun q hq => h q (List.mem_cons_of_mem _ hq)) x hx
theorem bytes_frame (t : Int) (ps : List (List Int)) (h : ∀ p ∈ ps, Bytes p) : Bytes (frameL t ps) := by
  intro x hx
  rcases List.mem_append.1 hx with hx | hx
  · simp only [List.mem_cons, List.not_mem_nil, or_false] at hx
    rcases hx with rfl | rfl <;> omega
  · exact bytes_cat ps h x hx

theorem picked_emod (a m : Int) (hm : 0 < m) (hm2 : m < 9223372036854775808) : chirographkeep_picked.f a m = some (a % m) := by
  unfold chirographkeep_picked.f
  rw [if_neg (by omega)]
  have h0 := Int.emod_nonneg a (show m ≠ 0 by omega)
  have h1 := Int.emod_lt_of_pos a hm
  have e : Int.tmod a m = a % m ∨ (Int.tmod a m = a % m - m ∧ 0 < a % m) := by
    rw [Int.tmod_eq_emod]
    split
    · left; omega
    · right
      have : ¬ m ∣ a := fun h => by simp_all
      have := Int.emod_pos_of_not_dvd this
      omega
  rcases e with e | ⟨e, hp⟩
  · rw [e, if_neg (by omega)]
  · rw [e, if_pos (by omega)]; unfold wrap64; congr 1; omega

/-! ### open digests -/
theorem Digest_open (t : Int) (ps : List (List Int)) (ht : 1 ≤ t ∧ t ≤ 9) (hps : ps.length ≤ 8) (hl : (frameL t ps).length ≤ 16777216) : Ev (fun k => oracle_Digest.f k 2 t ps) (frameL t ps, 0) := by
  refine Ev.congr (f := fun k => oracle_Digest.j0 k 2 t ps false) (fun k => ?_) ?_
  · simp only [oracle_Digest.f]
    rw [if_neg (by decide)]
    rfl
  · refine Ev.step (f := fun k => (oracle_Frame.f k t ps).bind fun b => if b.2 = 0 then (if (2 : Int) = 2 then some (b.1, b.2) else none) else some (b.1, b.2)) (fun k => ?_) (Ev.bind (Frame_ok t ps ht hps hl) (Ev.now _))
    simp only [oracle_Digest.j0]
    rw [if_neg (by simp)]

/-! ### a frame that is too long is none -/
theorem Frame_bad_loop (t : Int) (ps : List (List Int)) (hps : ps.length ≤ 8) (hl : 16777216 < (frameL t ps).length) (d : Nat) : ∀ (i : Nat) (all : Int), i + d = ps.length → all + (cat (ps.drop i)).length = (frameL t ps).length → 0 ≤ all → all ≤ 2 + 16777220 * i →
    Ev (fun k => oracle_Frame.l0 k t ps all ps (ps.length : Int) (i : Int)) ([], 1) := by
  induction d with
  | zero =>
    intro i all hi ha h0 h1
    rw [List.drop_of_length_le (by omega), cat_nil] at ha
    simp only [List.length_nil] at ha
    refine Ev.step (f := fun _ => some (([] : List Int), (1 : Int))) (fun k => ?_) (Ev.now _)
    simp only [oracle_Frame.l0]
    rw [if_neg (by omega), if_pos (by omega)]
  | succ d ih =>
    intro i all hi ha h0 h1
    have hlt : i < ps.length := by omega
    have hp := cat_part hlt
    have hw : wrap64 ((i : Int) + 1) = ((i + 1 : Nat) : Int) := by rw [w64 _ (by omega)]; omega
    by_cases hb : ps[i].length > 16777216
    · refine Ev.step (f := fun _ => some (([] : List Int), (1 : Int))) (fun k => ?_) (Ev.now _)
      simp only [oracle_Frame.l0]
      rw [if_pos (by omega), if_pos (by omega), if_pos (by omega), rdLL_at hlt, if_pos (by omega)]
    · refine Ev.step (f := fun k => oracle_Frame.l0 k t ps (all + (4 + (ps[i].length : Int))) ps (ps.length : Int) ((i + 1 : Nat) : Int)) (fun k => ?_) (ih (i + 1) (all + (4 + (ps[i].length : Int))) (by omega) (by omega) (by omega) (by omega))
      simp only [oracle_Frame.l0]
      rw [if_pos (by omega), if_pos (by omega), if_pos (by omega), rdLL_at hlt, if_neg (by omega), hw, w64 (4 + _) (by omega), w64 (all + _) (by omega)]
theorem Frame_bad (t : Int) (ps : List (List Int)) (ht : 1 ≤ t ∧ t ≤ 9) (hps : ps.length ≤ 8) (hl : 16777216 < (frameL t ps).length) : Ev (fun k => oracle_Frame.f k t ps) ([], 1) := by
  have h := Frame_bad_loop t ps hps hl ps.length 0 2 (by omega) (by simp [frameL]; omega) (by omega) (by omega)
  refine Ev.congr (f := fun k => oracle_Frame.j0 k t ps false) (fun k => ?_) ?_
  · simp only [oracle_Frame.f]
    rw [if_neg (by omega), decide_eq_false (by omega)]
  · refine Ev.step (f := fun k => oracle_Frame.l0 k t ps 2 ps (ps.length : Int) 0) (fun k => ?_) h
    simp only [oracle_Frame.j0]
    rw [if_neg (by simp), if_neg (by omega)]
theorem Digest_bad (t : Int) (ps : List (List Int)) (ht : 1 ≤ t ∧ t ≤ 9) (hps : ps.length ≤ 8) (hl : 16777216 < (frameL t ps).length) : Ev (fun k => oracle_Digest.f k 2 t ps) ([], 1) := by
  refine Ev.congr (f := fun k => oracle_Digest.j0 k 2 t ps false) (fun k => ?_) ?_
  · simp only [oracle_Digest.f]
    rw [if_neg (by decide)]
    rfl
  · refine Ev.step (f := fun k => (oracle_Frame.f k t ps).bind fun b => if b.2 = 0 then (if (2 : Int) = 2 then some (b.1, b.2) else none) else some (b.1, b.2)) (fun k => ?_) (Ev.bind (Frame_bad t ps ht hps hl) (Ev.now _))
    simp only [oracle_Digest.j0]
    rw [if_neg (by simp)]

/-! ### slots, their leaves, and the rows above them -/
theorem mn_range (s : Nat) : 0 ≤ mn (s : Int) 20 ∧ mn (s : Int) 20 ≤ (s : Int) ∧ mn (s : Int) 20 ≤ 20 := by
  unfold mn
  split <;> omega
theorem bytes_of (s : ByteArray) : Bytes (bytesOf s) := by
  intro x hx
  simp only [bytesOf, List.mem_map] at hx
  obtain ⟨u, _, rfl⟩ := hx
  have := UInt8.toNat_lt u
  omega
def Good (s : S44) : Prop := s.f1.length ≤ 3 ∧ s.f2.length ≤ 20 ∧ Bytes s.f1 ∧ Bytes s.f2 ∧ (s.f0 = false → s.f2 = [])
theorem slotOf_tells (a b c : Int) (d : ByteArray) : ∃ s : S44, chirographkeep_slotOf.f a b c d = some (s.f0, s.f1, s.f2) ∧ Good s := by
  have hb : Bytes ([b % 256, b / 256 % 256, c % 256] : List Int) := by
    intro x hx
    simp only [List.mem_cons, List.not_mem_nil, or_false] at hx
    rcases hx with rfl | rfl | rfl <;> omega
  have hr := mn_range d.size
  have hs : (d.extract 0 ((mn (d.size : Int) 20) : Int).toNat).size ≤ 20 := by
    rw [ByteArray.size_extract]
    omega
  simp only [chirographkeep_slotOf.f, picked_emod a 3 (by decide) (by decide), Option.bind_some]
  by_cases h : a % 3 > 0
  · rw [if_pos h, if_pos hr.1, if_pos hr.2.1, if_pos (by omega)]
    refine ⟨⟨decide (a % 3 > 0), _, _⟩, rfl, by simp, ?_, hb, bytes_of _, fun h0 => ?_⟩
    · show (bytesOf _).length ≤ 20
      rw [bytesOf_length]
      exact hs
    · simp [h] at h0
  · rw [if_neg h]
    exact ⟨⟨decide (a % 3 > 0), _, []⟩, rfl, by simp, by simp, hb, by intro x hx; simp at hx, fun _ => rfl⟩
theorem rdR_at {l : List S40} {i : Nat} (h : i < l.length) : rd_T40 l (i : Int) = l[i] := by
  unfold rd_T40
  simp [List.getD_eq_getElem?_getD, List.getElem?_eq_getElem h]
theorem rdS_at {l : List S44} {i : Nat} (h : i < l.length) : rd_T44 l (i : Int) = l[i] := by
  unfold rd_T44
  simp [List.getD_eq_getElem?_getD, List.getElem?_eq_getElem h]
theorem slots_l1 (l : List S40) (n : Nat) (hn : n ≤ 16) : ∀ (d i : Nat) (out : List S44), i + d = n → out.length ≤ i → ∃ s : List S44, Ev (fun k => chirographkeep_slotsOf.l1 k l out (n : Int) (i : Int)) (out ++ s) ∧ s.length = d ∧ ∀ x ∈ s, Good x
  | 0, i, out, hi, ho => by
    refine ⟨[], ?_, rfl, by simp⟩
    refine Ev.step (f := fun _ => some (out ++ [])) (fun k => ?_) (Ev.now _)
    simp only [chirographkeep_slotsOf.l1]
    rw [if_neg (by omega), List.append_nil]
  | d + 1, i, out, hi, ho => by
    have hw : wrap64 ((i : Int) + 1) = ((i + 1 : Nat) : Int) := by rw [w64 _ (by omega)]; omega
    have go : ∀ (a b c : Int) (e : ByteArray), (∀ k, chirographkeep_slotsOf.l1 (k + 1) l out (n : Int) (i : Int) = chirographkeep_slotsOf.j2 k l out (n : Int) (i : Int) a b c e) → ∃ s : List S44, Ev (fun k => chirographkeep_slotsOf.l1 k l out (n : Int) (i : Int)) (out ++ s) ∧ s.length = d + 1 ∧ ∀ x ∈ s, Good x := by
      intro a b c e hk
      obtain ⟨x, hx, hg⟩ := slotOf_tells a b c e
      obtain ⟨s, h1, h2, h3⟩ := slots_l1 l n hn d (i + 1) (out ++ [x]) (by omega) (by simp; omega)
      refine ⟨x :: s, ?_, by simp [h2], fun y hy => ?_⟩
      · rw [show out ++ x :: s = (out ++ [x]) ++ s by simp]
        refine Ev.step hk (Ev.step (fun k => ?_) h1)
        simp only [chirographkeep_slotsOf.j2]
        rw [hx, Option.bind_some, if_pos (by omega), hw]
      · rcases List.mem_cons.1 hy with rfl | hy
        · exact hg
        · exact h3 y hy
    by_cases hl : i < l.length
    · refine go l[i].f0 l[i].f1 l[i].f2 l[i].f3 (fun k => ?_)
      simp only [chirographkeep_slotsOf.l1]
      rw [if_pos (by omega), if_pos (by omega), if_pos (by omega), rdR_at hl]
    · refine go 0 0 0 (⟨#[]⟩ : ByteArray) (fun k => ?_)
      simp only [chirographkeep_slotsOf.l1]
      rw [if_pos (by omega), if_neg (by omega)]
def Pow (n : Nat) : Prop := n = 1 ∨ n = 2 ∨ n = 4 ∨ n = 8 ∨ n = 16
theorem slots_l0 (l : List S40) : ∀ (d n : Nat), Pow n → n * 2 ^ d = 16 → ∃ s : List S44, Ev (fun k => chirographkeep_slotsOf.l0 k l (n : Int)) s ∧ Pow s.length ∧ ∀ x ∈ s, Good x
  | d, n, hp, hd => by
    have h16 : n ≤ 16 := by unfold Pow at hp; omega
    have h1 : 1 ≤ n := by unfold Pow at hp; omega
    have hw : wrap64 ((n : Int) * 2) = ((n * 2 : Nat) : Int) := by rw [w64 _ (by omega)]; omega
    have hm : mn (l.length : Int) 16 ≤ 16 := by unfold mn; split <;> omega
    by_cases hc : ((n * 2 : Nat) : Int) ≤ mn (l.length : Int) 16
    · cases d with
      | zero => simp at hd; omega
      | succ d =>
        obtain ⟨s, e, h2, h3⟩ := slots_l0 l d (n * 2) (by unfold Pow at hp ⊢; omega) (by rw [← hd, Nat.pow_succ, Nat.mul_assoc, Nat.mul_comm 2])
        refine ⟨s, Ev.step (fun k => ?_) e, h2, h3⟩
        simp only [chirographkeep_slotsOf.l0]
        rw [hw, if_pos hc]
    · obtain ⟨s, e, h2, h3⟩ := slots_l1 l n h16 n 0 [] (by omega) (by simp)
      refine ⟨s, Ev.step (fun k => ?_) (by simpa using e), by rw [h2]; exact hp, h3⟩
      simp only [chirographkeep_slotsOf.l0]
      rw [hw, if_neg hc]
theorem slots_ev (l : List S40) : ∃ s : List S44, Ev (fun k => chirographkeep_slotsOf.f k l) s ∧ Pow s.length ∧ ∀ x ∈ s, Good x := slots_l0 l 4 1 (.inl rfl) rfl
def leafL (s : S44) : List Int := if s.f0 = true then frameL 1 [s.f1, [1] ++ s.f2] else frameL 1 [s.f1, [0]]
theorem cat_two (a b : List Int) : (cat [a, b]).length = 8 + a.length + b.length := by
  rw [cat_cons, cat_cons, cat_nil]
  simp only [List.length_append, four_length, List.length_nil]
  omega
theorem leaf_len {s : S44} (h : Good s) : (leafL s).length + 10 ≤ 44 := by
  have h1 := h.1
  have h2 := h.2.1
  unfold leafL
  split
  · rw [frame_len, cat_two]
    simp only [List.length_append, List.length_singleton]
    omega
  · rw [frame_len, cat_two]
    simp only [List.length_singleton]
    omega
theorem bytes_two {a b : List Int} (t : Int) (ha : Bytes a) (hb : Bytes b) : Bytes (frameL t [a, b]) := bytes_frame _ _ (fun p hp => by
  simp only [List.mem_cons, List.not_mem_nil, or_false] at hp
  rcases hp with rfl | rfl
  · exact ha
  · exact hb)
theorem leaf_bytes {s : S44} (h : Good s) : Bytes (leafL s) := by
  unfold leafL
  split
  · refine bytes_two _ h.2.2.1 (fun x hx => ?_)
    rcases List.mem_append.1 hx with hx | hx
    · simp only [List.mem_singleton] at hx; subst hx; omega
    · exact h.2.2.2.1 x hx
  · refine bytes_two _ h.2.2.1 (fun x hx => ?_)
    simp only [List.mem_singleton] at hx
    subst hx
    omega
theorem pair_free {t a b c d} (ht : (1 : Int) ≤ t ∧ t ≤ 9) (ha : a.length ≤ 16777216) (hb : b.length ≤ 16777216) (hc : c.length ≤ 16777216) (hd : d.length ≤ 16777216) (h : frameL t [a, b] = frameL t [c, d]) : a = c ∧ b = d := by
  have two : ∀ u v : List Int, u.length ≤ 16777216 → v.length ≤ 16777216 → ∀ x ∈ [u, v], x.length < 4294967296 := by
    intro u v hu hv x hx
    simp only [List.mem_cons, List.not_mem_nil, or_false] at hx
    rcases hx with rfl | rfl <;> omega
  have e := (frame_free (t := t) (u := t) (p := [a, b]) (q := [c, d]) ht ht (by simp) (by simp) (two a b ha hb) (two c d hc hd) (z := []) (z2 := []) (by rw [h])).2
  simpa using e
theorem leaf_inj {s t : S44} (hs : Good s) (ht : Good t) (h : leafL s = leafL t) : s = t := by
  have h1 := hs.1
  have h2 := hs.2.1
  have h3 := ht.1
  have h4 := ht.2.1
  obtain ⟨a0, a1, a2⟩ := s
  obtain ⟨b0, b1, b2⟩ := t
  unfold leafL at h
  cases a0 <;> cases b0
  · simp only [Bool.false_eq_true, if_false] at h
    have e := (pair_free (by decide) (by simp at h1; omega) (by simp) (by simp at h3; omega) (by simp) h).1
    have z1 := hs.2.2.2.2 rfl
    have z2 := ht.2.2.2.2 rfl
    simp at z1 z2
    subst z1 z2 e
    rfl
  · simp only [Bool.false_eq_true, if_false, if_true] at h
    have e := (pair_free (by decide) (by simp at h1; omega) (by simp) (by simp at h3; omega) (by simp at h4 ⊢; omega) h).2
    simp at e
  · simp only [Bool.false_eq_true, if_false, if_true] at h
    have e := (pair_free (by decide) (by simp at h1; omega) (by simp at h2 ⊢; omega) (by simp at h3; omega) (by simp) h).2
    simp at e
  · simp only [if_true] at h
    have e := pair_free (by decide) (by simp at h1; omega) (by simp at h2 ⊢; omega) (by simp at h3; omega) (by simp at h4 ⊢; omega) h
    have e2 := e.2
    simp at e2
    rw [e.1, e2]
theorem Leaf_ev {s : S44} (h : Good s) : Ev (fun k => slots_Leaf.f k 2 s.f0 s.f1 s.f2) (leafL s, 0) := by
  have h1 := h.1
  have h2 := h.2.1
  have hl := leaf_len h
  refine Ev.congr (f := fun k => slots_Leaf.j0 k 2 false s.f0 s.f1 s.f2) (fun k => ?_) ?_
  · simp only [slots_Leaf.f, slots_modes.f]
    simp only [if_neg (show ¬ (2 : Int) = 1 by decide), Option.bind_some, if_pos (show ((2 : Int) == 2) = true by decide)]
    by_cases hf : s.f0 = true
    · rw [if_pos hf]
    · rw [if_neg hf, h.2.2.2.2 (by simpa using hf), decide_eq_false (by simp)]
  refine Ev.step (f := fun k => slots_Leaf.j1 k 2 false s.f0 s.f1 s.f2) (fun k => ?_) ?_
  · simp only [slots_Leaf.j0]
    rw [if_neg (by simp), if_neg (by omega), decide_eq_false (by omega)]
  unfold leafL at hl ⊢
  by_cases hf : s.f0 = true
  · rw [if_pos hf] at hl ⊢
    refine Ev.step (f := fun k => (oracle_Digest.f k 2 1 (([s.f1, ([1] ++ s.f2)] : List (List Int)))).bind fun bt171 => (some (bt171.1, bt171.2))) (fun k => ?_) (Ev.bind (Digest_open 1 _ (by decide) (by simp) (by omega)) (Ev.now _))
    simp only [slots_Leaf.j1]
    rw [if_neg (by simp), if_pos hf, Option.bind_some, if_pos (by simp; omega)]
  · rw [if_neg hf] at hl ⊢
    refine Ev.step (f := fun k => (oracle_Digest.f k 2 1 (([s.f1, [0]] : List (List Int)))).bind fun bt178 => (some (bt178.1, bt178.2))) (fun k => ?_) (Ev.bind (Digest_open 1 _ (by decide) (by simp) (by omega)) (Ev.now _))
    simp only [slots_Leaf.j1]
    rw [if_neg (by simp), if_neg hf]
theorem leaves_loop (s : List S44) (hs : s.length ≤ 64) (hg : ∀ x ∈ s, Good x) : ∀ (d i : Nat) (out : List (List Int)), i + d = s.length → out.length ≤ i → Ev (fun k => slots_leaves.l0 k 2 out s (s.length : Int) (i : Int)) (out ++ (s.drop i).map leafL, 0)
  | 0, i, out, hi, ho => by
    rw [List.drop_of_length_le (by omega)]
    refine Ev.step (f := fun _ => some (out ++ [], (0 : Int))) (fun k => ?_) (Ev.now _)
    simp only [slots_leaves.l0]
    rw [if_neg (by omega), List.append_nil]
  | d + 1, i, out, hi, ho => by
    have hlt : i < s.length := by omega
    have hw : wrap64 ((i : Int) + 1) = ((i + 1 : Nat) : Int) := by rw [w64 _ (by omega)]; omega
    have ih := leaves_loop s hs hg d (i + 1) (out ++ [leafL s[i]]) (by omega) (by simp; omega)
    rw [List.drop_eq_getElem_cons hlt, List.map_cons, show out ++ leafL s[i] :: (s.drop (i + 1)).map leafL = (out ++ [leafL s[i]]) ++ (s.drop (i + 1)).map leafL by simp]
    refine Ev.step (f := fun k => (slots_Leaf.f k 2 s[i].f0 s[i].f1 s[i].f2).bind fun bt186 => (if bt186.2 = 0 then (if out.length < 5864062014805 then (slots_leaves.l0 k 2 (out ++ [bt186.1]) s (s.length : Int) ((i + 1 : Nat) : Int)) else (none)) else (some (([] : List (List Int)), bt186.2)))) (fun k => ?_) ?_
    · simp only [slots_leaves.l0]
      rw [if_pos (by omega), if_pos (by omega), if_pos (by omega), rdS_at hlt, hw]
    · refine Ev.bind (Leaf_ev (hg _ (List.getElem_mem hlt))) ?_
      simp only [if_true, if_pos (show out.length < 5864062014805 by omega)]
      exact ih
theorem power_yes {n : Nat} (h : Pow n) : slots_power.f (n : Int) = some true := by
  rcases h with rfl | rfl | rfl | rfl | rfl <;> decide +kernel
theorem leaves_ev {s : List S44} (hs : Pow s.length) (hg : ∀ x ∈ s, Good x) : Ev (fun k => slots_leaves.f k 2 s) (s.map leafL, 0) := by
  have h16 : s.length ≤ 16 := by unfold Pow at hs; omega
  refine Ev.congr (f := fun k => slots_leaves.l0 k 2 [] s (s.length : Int) 0) (fun k => ?_) (by simpa using leaves_loop s (by omega) hg s.length 0 [] (by omega) (by simp))
  simp only [slots_leaves.f, slots_modes.f, power_yes hs]
  simp only [if_neg (show ¬ (2 : Int) = 1 by decide), Option.bind_some, if_pos (show ((2 : Int) == 2) = true by decide), if_true]
def upL : List (List Int) → List (List Int)
  | a :: b :: r => frameL 2 [a, b] :: upL r
  | _ => []
theorem upL_len : ∀ (h : Nat) (r : List (List Int)), r.length = 2 * h → (upL r).length = h
  | 0, r, hr => by rw [List.eq_nil_of_length_eq_zero (l := r) (by omega)]; rfl
  | h + 1, a :: b :: r, hr => by
    simp only [upL, List.length_cons]
    rw [upL_len h r (by simp at hr; omega)]
  | h + 1, [_], hr => by simp at hr; omega
  | h + 1, [], hr => by simp at hr
theorem upL_all {B : Nat} : ∀ (r : List (List Int)), (∀ x ∈ r, x.length + 10 ≤ B ∧ Bytes x) → ∀ x ∈ upL r, x.length + 10 ≤ 2 * B ∧ Bytes x
  | [], _, x, hx => by simp [upL] at hx
  | [_], _, x, hx => by simp [upL] at hx
  | a :: b :: r, h, x, hx => by
    simp only [upL, List.mem_cons] at hx
    have ha := h a (by simp)
    have hb := h b (by simp)
    rcases hx with rfl | hx
    · refine ⟨?_, bytes_two _ ha.2 hb.2⟩
      rw [frame_len, cat_two]
      omega
    · exact upL_all r (fun y hy => h y (by simp [hy])) x hx
theorem upL_inj {B : Nat} (hB : B ≤ 1000000) : ∀ (h : Nat) (a b : List (List Int)), a.length = 2 * h → b.length = 2 * h → (∀ x ∈ a, x.length + 10 ≤ B) → (∀ x ∈ b, x.length + 10 ≤ B) → upL a = upL b → a = b
  | 0, a, b, ha, hb, _, _, _ => by rw [List.eq_nil_of_length_eq_zero (l := a) (by omega), List.eq_nil_of_length_eq_zero (l := b) (by omega)]
  | h + 1, x :: y :: a, u :: v :: b, ha, hb, xa, xb, e => by
    simp only [upL, List.cons.injEq] at e
    have h1 := xa x (by simp)
    have h2 := xa y (by simp)
    have h3 := xb u (by simp)
    have h4 := xb v (by simp)
    obtain ⟨rfl, rfl⟩ := pair_free (by decide) (by omega) (by omega) (by omega) (by omega) e.1
    rw [upL_inj hB h a b (by simp at ha; omega) (by simp at hb; omega) (fun z hz => xa z (by simp [hz])) (fun z hz => xb z (by simp [hz])) e.2]
  | h + 1, [], _, ha, _, _, _, _ => by simp at ha
  | h + 1, [_], _, ha, _, _, _, _ => by simp at ha; omega
  | h + 1, _, [], _, hb, _, _, _ => by simp at hb
  | h + 1, _, [_], _, hb, _, _, _ => by simp at hb; omega
theorem node_ev (a b : List Int) (ha : a.length ≤ 1000000) (hb : b.length ≤ 1000000) : Ev (fun k => slots_node.f k 2 a b) (frameL 2 [a, b], 0) := by
  simp only [slots_node.f]
  exact Ev.bind (Digest_open 2 [a, b] (by decide) (by simp) (by rw [frame_len, cat_two]; omega)) (Ev.now _)
theorem up_loop (r : List (List Int)) (h : Nat) (hr : r.length = 2 * h) (hh : h ≤ 1000) (hx : ∀ x ∈ r, x.length ≤ 1000000) : ∀ (d j : Nat) (out : List (List Int)), j + d = h → out.length ≤ j → Ev (fun k => slots_up.l0 k 2 r out ((2 * j : Nat) : Int)) (out ++ upL (r.drop (2 * j)), 0)
  | 0, j, out, hj, ho => by
    rw [List.drop_of_length_le (by omega)]
    refine Ev.step (f := fun _ => some (out ++ [], (0 : Int))) (fun k => ?_) (Ev.now _)
    simp only [slots_up.l0]
    rw [w64 _ (by omega), if_neg (by omega), List.append_nil]
  | d + 1, j, out, hj, ho => by
    have h1 : 2 * j < r.length := by omega
    have h2 : 2 * j + 1 < r.length := by omega
    have hw : wrap64 (((2 * j : Nat) : Int) + 1) = ((2 * j + 1 : Nat) : Int) := by rw [w64 _ (by omega)]; omega
    have hw2 : wrap64 (((2 * j : Nat) : Int) + 2) = ((2 * (j + 1) : Nat) : Int) := by rw [w64 _ (by omega)]; omega
    have ih := up_loop r h hr hh hx d (j + 1) (out ++ [frameL 2 [r[2 * j], r[2 * j + 1]]]) (by omega) (by simp; omega)
    rw [List.drop_eq_getElem_cons h1, List.drop_eq_getElem_cons h2]
    simp only [upL]
    rw [show out ++ frameL 2 [r[2 * j], r[2 * j + 1]] :: upL (r.drop (2 * j + 1 + 1)) = (out ++ [frameL 2 [r[2 * j], r[2 * j + 1]]]) ++ upL (r.drop (2 * (j + 1))) by simp [Nat.mul_add]]
    refine Ev.step (f := fun k => (slots_node.f k 2 r[2 * j] r[2 * j + 1]).bind fun bt202 => (if bt202.2 = 0 then (if out.length < 5864062014805 then (slots_up.l0 k 2 r (out ++ [bt202.1]) ((2 * (j + 1) : Nat) : Int)) else (none)) else (some (([] : List (List Int)), bt202.2)))) (fun k => ?_) ?_
    · simp only [slots_up.l0]
      rw [hw, hw2, if_pos (by omega), if_pos (by omega), if_pos (by omega), if_pos (by omega), rdLL_at h1, rdLL_at h2]
    · refine Ev.bind (node_ev _ _ (hx _ (List.getElem_mem h1)) (hx _ (List.getElem_mem h2))) ?_
      simp only [if_true, if_pos (show out.length < 5864062014805 by omega)]
      exact ih
theorem up_ev (r : List (List Int)) (h : Nat) (hr : r.length = 2 * h) (hh : h ≤ 1000) (hx : ∀ x ∈ r, x.length ≤ 1000000) : Ev (fun k => slots_up.f k 2 r) (upL r, 0) := by
  have := up_loop r h hr hh hx h 0 [] (by omega) (by simp)
  simpa [slots_up.f] using this
def rowR : Nat → List (List Int) → List Int
  | 0, r => r.getD 0 []
  | m + 1, r => rowR m (upL r)
theorem rowR_ev : ∀ (m B : Nat) (r : List (List Int)), r.length = 2 ^ m → m ≤ 6 → B * 2 ^ m ≤ 1000000 → (∀ x ∈ r, x.length + 10 ≤ B ∧ Bytes x) → Ev (fun k => slots_Root.l0 k 2 r 0) (rowR m r, 0) ∧ Bytes (rowR m r)
  | 0, B, r, hr, _, hB, hx => by
    match r, hr with
    | [x], _ =>
      refine ⟨?_, by simpa [rowR] using (hx x (by simp)).2⟩
      refine Ev.step (f := fun k => slots_Root.j1 k [x] 0) (fun k => ?_) (Ev.step (f := fun _ => some (x, (0 : Int))) (fun k => ?_) (Ev.now _))
      · simp only [slots_Root.l0, if_true]
        rw [if_neg (by simp)]
      · simp only [slots_Root.j1, if_true]
        rw [if_pos (by simp)]
        rfl
  | m + 1, B, r, hr, hm, hB, hx => by
    have hh : r.length = 2 * 2 ^ m := by rw [hr, Nat.pow_succ, Nat.mul_comm]
    have h2 : 2 ^ m ≤ 64 := Nat.le_trans (Nat.pow_le_pow_right (by omega) (show m ≤ 6 by omega)) (by decide)
    have h1 : 1 ≤ 2 ^ m := Nat.one_le_two_pow
    have hB1 : B ≤ 1000000 := Nat.le_trans (Nat.le_mul_of_pos_right _ (Nat.two_pow_pos _)) hB
    have hu := up_ev r (2 ^ m) hh (by omega) (fun x hx' => by have := (hx x hx').1; omega)
    obtain ⟨e, eb⟩ := rowR_ev m (2 * B) (upL r) (upL_len _ _ hh) (by omega) (by rw [Nat.pow_succ] at hB; rw [Nat.mul_comm 2 B, Nat.mul_assoc, Nat.mul_comm 2]; exact hB) (upL_all r hx)
    refine ⟨?_, eb⟩
    refine Ev.step (f := fun k => (slots_up.f k 2 r).bind fun bt213 => (slots_Root.l0 k 2 bt213.1 bt213.2)) (fun k => ?_) (Ev.bind hu e)
    simp only [slots_Root.l0, if_true]
    rw [if_pos (by omega)]
theorem rowR_inj : ∀ (m B : Nat) (a b : List (List Int)), a.length = 2 ^ m → b.length = 2 ^ m → B * 2 ^ m ≤ 1000000 → (∀ x ∈ a, x.length + 10 ≤ B ∧ Bytes x) → (∀ x ∈ b, x.length + 10 ≤ B ∧ Bytes x) → rowR m a = rowR m b → a = b
  | 0, B, a, b, ha, hb, _, _, _, h => by
    match a, b, ha, hb with
    | [x], [y], _, _ => simpa [rowR] using h
  | m + 1, B, a, b, ha, hb, hB, xa, xb, h => by
    have h1 : a.length = 2 * 2 ^ m := by rw [ha, Nat.pow_succ, Nat.mul_comm]
    have h2 : b.length = 2 * 2 ^ m := by rw [hb, Nat.pow_succ, Nat.mul_comm]
    have hB1 : B ≤ 1000000 := Nat.le_trans (Nat.le_mul_of_pos_right _ (Nat.two_pow_pos _)) hB
    exact upL_inj hB1 (2 ^ m) a b h1 h2 (fun x hx => (xa x hx).1) (fun x hx => (xb x hx).1) (rowR_inj m (2 * B) (upL a) (upL b) (upL_len _ _ h1) (upL_len _ _ h2) (by rw [Nat.pow_succ] at hB; rw [Nat.mul_comm 2 B, Nat.mul_assoc, Nat.mul_comm 2]; exact hB) (upL_all a xa) (upL_all b xb) h)
theorem rowR_pos : ∀ (m : Nat) (r : List (List Int)), r.length = 2 ^ m → (∀ x ∈ r, 1 ≤ x.length) → 1 ≤ (rowR m r).length
  | 0, r, hr, hx => by
    match r, hr with
    | [x], _ => simpa [rowR] using hx x (by simp)
  | m + 1, r, hr, hx => by
    have h1 : r.length = 2 * 2 ^ m := by rw [hr, Nat.pow_succ, Nat.mul_comm]
    refine rowR_pos m (upL r) (upL_len _ _ h1) ?_
    have all : ∀ q : List (List Int), ∀ x ∈ upL q, 1 ≤ x.length := by
      intro q
      induction q using upL.induct with
      | case1 a b r ih =>
        intro x hx
        simp only [upL, List.mem_cons] at hx
        rcases hx with rfl | hx
        · rw [frame_len]; omega
        · exact ih x hx
      | case2 q hq => intro x hx; simp [upL] at hx
    exact all r
theorem pow_is {n : Nat} (h : Pow n) : ∃ m, m ≤ 4 ∧ n = 2 ^ m := by
  rcases h with rfl | rfl | rfl | rfl | rfl
  · exact ⟨0, by decide, rfl⟩
  · exact ⟨1, by decide, rfl⟩
  · exact ⟨2, by decide, rfl⟩
  · exact ⟨3, by decide, rfl⟩
  · exact ⟨4, by decide, rfl⟩
theorem leaves_all {s : List S44} (hg : ∀ x ∈ s, Good x) : ∀ x ∈ s.map leafL, x.length + 10 ≤ 44 ∧ Bytes x := by
  intro x hx
  obtain ⟨y, hy, rfl⟩ := List.mem_map.1 hx
  exact ⟨leaf_len (hg y hy), leaf_bytes (hg y hy)⟩
theorem SRoot_ev {s : List S44} {m : Nat} (hm : m ≤ 4) (hl : s.length = 2 ^ m) (hp : Pow s.length) (hg : ∀ x ∈ s, Good x) : Ev (fun k => slots_Root.f k 2 s) (rowR m (s.map leafL), 0) ∧ Bytes (rowR m (s.map leafL)) := by
  have hpw : 2 ^ m ≤ 16 := Nat.le_trans (Nat.pow_le_pow_right (by omega) hm) (by decide)
  obtain ⟨e, b⟩ := rowR_ev m 44 (s.map leafL) (by rw [List.length_map, hl]) (by omega) (by omega) (leaves_all hg)
  refine ⟨?_, b⟩
  simp only [slots_Root.f]
  exact Ev.bind (leaves_ev hp hg) e
theorem map_leaf_inj : ∀ {s t : List S44}, (∀ x ∈ s, Good x) → (∀ x ∈ t, Good x) → s.map leafL = t.map leafL → s = t
  | [], [], _, _, _ => rfl
  | [], _ :: _, _, _, h => by simp at h
  | _ :: _, [], _, _, h => by simp at h
  | a :: s, b :: t, hs, ht, h => by
    simp only [List.map_cons, List.cons.injEq] at h
    rw [leaf_inj (hs a (by simp)) (ht b (by simp)) h.1, map_leaf_inj (fun x hx => hs x (by simp [hx])) (fun x hx => ht x (by simp [hx])) h.2]
theorem sameSlot_tells {s t : S44} (hs : Good s) (ht : Good t) : ∃ b, chirographkeep_sameSlot.f s.f0 s.f1 s.f2 t.f0 t.f1 t.f2 = some b ∧ (b = true ↔ s = t) := by
  have e1 := str_iff hs.2.2.1 ht.2.2.1
  have e2 := str_iff hs.2.2.2.1 ht.2.2.2.1
  unfold chirographkeep_sameSlot.f
  obtain ⟨a0, a1, a2⟩ := s
  obtain ⟨b0, b1, b2⟩ := t
  simp only at e1 e2
  by_cases h0 : a0 = b0
  · subst h0
    simp only [beq_self_eq_true, if_true]
    by_cases h1 : a1 = b1
    · rw [if_pos (e1.2 h1)]
      exact ⟨_, rfl, by rw [beq_iff_eq, e2]; simp [h1]⟩
    · rw [if_neg (fun h => h1 (e1.1 h))]
      exact ⟨_, rfl, by simp [h1]⟩
  · rw [if_neg (by simpa using h0)]
    exact ⟨_, rfl, by simp [h0]⟩

theorem u8_of {l : List Int} (h : ∀ x ∈ l, (Lit.int .u8 x).wf = true) : Bytes l := by
  intro x hx
  have := h x hx
  simp [Lit.wf, IntKind.min, IntKind.max, IntKind.signed, IntKind.bits] at this
  omega
theorem node_any (a b : List Int) : ∃ d e, Ev (fun k => slots_node.f k 2 a b) (d, e) ∧ (e = 0 → d = frameL 2 [a, b] ∧ (frameL 2 [a, b]).length ≤ 16777216) := by
  by_cases h : (frameL 2 [a, b]).length ≤ 16777216
  · refine ⟨frameL 2 [a, b], 0, ?_, fun _ => ⟨rfl, h⟩⟩
    simp only [slots_node.f]
    exact Ev.bind (Digest_open 2 [a, b] (by decide) (by simp) h) (Ev.now _)
  · refine ⟨[], 1, ?_, fun h => absurd h (by decide)⟩
    simp only [slots_node.f]
    exact Ev.bind (Digest_bad 2 [a, b] (by decide) (by simp) (by omega)) (Ev.now _)
theorem upL_get : ∀ (h : Nat) (r : List (List Int)) (h1 : 2 * h + 1 < r.length), (upL r)[h]? = some (frameL 2 [r[2 * h]'(by omega), r[2 * h + 1]])
  | 0, a :: b :: r, _ => rfl
  | h + 1, a :: b :: r, h1 => by
    have ih := upL_get h r (by simp at h1; omega)
    simp only [upL, List.getElem?_cons_succ]
    rw [ih]
    congr 3
  | _, [], h1 => by simp at h1
  | _, [_], h1 => by simp at h1
theorem half_pow (m : Nat) (hm : m ≤ 6) : wrap64 (Int.tdiv ((2 ^ (m + 1) : Nat) : Int) 2) = ((2 ^ m : Nat) : Int) := by
  have h2 : 2 ^ m ≤ 64 := Nat.le_trans (Nat.pow_le_pow_right (by omega) hm) (by decide)
  rw [Nat.pow_succ]
  generalize 2 ^ m = p at h2 ⊢
  rw [show ((p * 2 : Nat) : Int) = (p : Int) * 2 by omega, Int.mul_tdiv_cancel _ (by decide), w64 _ (by omega)]
theorem half_nat (i : Nat) (hi : i ≤ 1000) : wrap64 (Int.tdiv (i : Int) 2) = ((i / 2 : Nat) : Int) := by
  rw [show Int.tdiv (i : Int) 2 = ((i / 2 : Nat) : Int) from rfl, w64 _ (by omega)]
theorem odd_nat (i : Nat) : Int.tmod (i : Int) 2 = ((i % 2 : Nat) : Int) := rfl
/-- One step of a proof that is looked at. -/
theorem check_step {root : List Int} {m i j : Nat} {d : List Int} {P : List (List Int)} (hm : m ≤ 6) (hi : i ≤ 1000) (hj : j < P.length) (hl : P.length < 1000000000000000) {c : Int}
    (h : (i % 2 = 1 → ∃ d' e, Ev (fun k => slots_node.f k 2 P[j] d) (d', e) ∧ (if e = 0 then Ev (fun k => slots_CheckPath.l0 k 2 root ((2 ^ m : Nat) : Int) ((i / 2 : Nat) : Int) d' P (P.length : Int) ((j + 1 : Nat) : Int)) c else c = 10)) ∧
      (¬ i % 2 = 1 → ∃ d' e, Ev (fun k => slots_node.f k 2 d P[j]) (d', e) ∧ (if e = 0 then Ev (fun k => slots_CheckPath.l0 k 2 root ((2 ^ m : Nat) : Int) ((i / 2 : Nat) : Int) d' P (P.length : Int) ((j + 1 : Nat) : Int)) c else c = 10))) :
    Ev (fun k => slots_CheckPath.l0 k 2 root ((2 ^ (m + 1) : Nat) : Int) (i : Int) d P (P.length : Int) (j : Int)) c := by
  have hw : wrap64 ((j : Int) + 1) = ((j + 1 : Nat) : Int) := by rw [w64 _ (by omega)]; omega
  have hne : ¬ ((2 ^ (m + 1) : Nat) : Int) = 1 := by
    have : 1 ≤ 2 ^ m := Nat.one_le_two_pow
    rw [Nat.pow_succ]
    omega
  by_cases ho : i % 2 = 1
  · obtain ⟨d', e, h1, h2⟩ := h.1 ho
    refine Ev.step (f := fun k => (slots_node.f k 2 P[j] d).bind fun bt246 => (if bt246.2 = 0 then (slots_CheckPath.l0 k 2 root ((2 ^ m : Nat) : Int) ((i / 2 : Nat) : Int) bt246.1 P (P.length : Int) ((j + 1 : Nat) : Int)) else (some 10))) (fun k => ?_) (Ev.bind h1 ?_)
    · simp only [slots_CheckPath.l0]
      rw [if_pos (by omega), if_pos (by omega), if_pos (by omega), if_neg hne, odd_nat, if_pos (by omega), half_pow m hm, half_nat i hi, hw, rdLL_at hj]
    · by_cases he : e = 0
      · rw [if_pos he] at h2
        simp only [if_pos he]
        exact h2
      · rw [if_neg he] at h2
        simp only [if_neg he]
        rw [h2]
        exact Ev.now _
  · obtain ⟨d', e, h1, h2⟩ := h.2 ho
    refine Ev.step (f := fun k => (slots_node.f k 2 d P[j]).bind fun bt250 => (if bt250.2 = 0 then (slots_CheckPath.l0 k 2 root ((2 ^ m : Nat) : Int) ((i / 2 : Nat) : Int) bt250.1 P (P.length : Int) ((j + 1 : Nat) : Int)) else (some 10))) (fun k => ?_) (Ev.bind h1 ?_)
    · simp only [slots_CheckPath.l0]
      rw [if_pos (by omega), if_pos (by omega), if_pos (by omega), if_neg hne, odd_nat, if_neg (by omega), half_pow m hm, half_nat i hi, hw, rdLL_at hj]
    · by_cases he : e = 0
      · rw [if_pos he] at h2
        simp only [if_pos he]
        exact h2
      · rw [if_neg he] at h2
        simp only [if_neg he]
        rw [h2]
        exact Ev.now _
theorem check_end {root : List Int} {n i j : Nat} {d : List Int} {P : List (List Int)} (hj : j = P.length) : Ev (fun k => slots_CheckPath.l0 k 2 root (n : Int) (i : Int) d P (P.length : Int) (j : Int)) (if n = 1 then (if ((strOfNums d).toList == (strOfNums root).toList) = true then 0 else 10) else 10) := by
  subst hj
  by_cases h1 : n = 1
  · subst h1
    rw [if_pos rfl]
    refine Ev.step (f := fun _ => some (if ((strOfNums d).toList == (strOfNums root).toList) = true then (0 : Int) else 10)) (fun k => ?_) (Ev.now _)
    simp only [slots_CheckPath.l0, bytes_Equal.f, Option.bind_some]
    rw [if_neg (by omega), if_pos (by simp)]
    split <;> rfl
  · rw [if_neg h1]
    refine Ev.step (f := fun _ => some 10) (fun k => ?_) (Ev.now _)
    simp only [slots_CheckPath.l0]
    rw [if_neg (by omega), if_neg (by omega)]
theorem check_one {root : List Int} {i j : Nat} {d : List Int} {P : List (List Int)} (hj : j < P.length) : Ev (fun k => slots_CheckPath.l0 k 2 root ((1 : Nat) : Int) (i : Int) d P (P.length : Int) (j : Int)) 10 := by
  refine Ev.step (f := fun _ => some 10) (fun k => ?_) (Ev.now _)
  simp only [slots_CheckPath.l0]
  rw [if_pos (by omega), if_pos (by omega), if_pos (by omega), if_pos (by simp)]
theorem check_sound (P : List (List Int)) (hP : ∀ p ∈ P, Bytes p) (hl : P.length < 1000000000000000) (root : List Int) : ∀ (q : Nat) (m B : Nat) (r : List (List Int)) (i j : Nat) (d : List Int), q + j = P.length → r.length = 2 ^ m → m ≤ 6 → B * 2 ^ m ≤ 1000000 → (∀ x ∈ r, x.length + 10 ≤ B ∧ Bytes x) → i < 2 ^ m → Bytes d → d.length ≤ 16777216 → root = rowR m r →
    ∃ c, Ev (fun k => slots_CheckPath.l0 k 2 root ((2 ^ m : Nat) : Int) (i : Int) d P (P.length : Int) (j : Int)) c ∧ (c = 0 → r[i]? = some d)
  | 0, m, B, r, i, j, d, hq, hr, hm, hB, hx, hi, hd, hs, hroot => by
    refine ⟨_, check_end (by omega), fun h0 => ?_⟩
    cases m with
    | succ m =>
      have : 1 ≤ 2 ^ m := Nat.one_le_two_pow
      rw [if_neg (by rw [Nat.pow_succ]; omega)] at h0
      exact absurd h0 (by decide)
    | zero =>
      rw [if_pos (by rfl)] at h0
      by_cases hc : ((strOfNums d).toList == (strOfNums root).toList) = true
      · obtain ⟨x, rfl⟩ : ∃ x, r = [x] := by
          match r, hr with
          | [x], _ => exact ⟨x, rfl⟩
        have hxx : root = x := hroot
        have h00 : i = 0 := by simpa using hi
        subst h00 hxx
        have := (str_iff hd (hx root (by simp)).2).1 (beq_iff_eq.1 hc)
        rw [this]
        rfl
      · rw [if_neg hc] at h0
        exact absurd h0 (by decide)
  | q + 1, 0, B, r, i, j, d, hq, hr, hm, hB, hx, hi, hd, hs, hroot => ⟨10, check_one (by omega), fun h => absurd h (by decide)⟩
  | q + 1, m + 1, B, r, i, j, d, hq, hr, hm, hB, hx, hi, hd, hs, hroot => by
    have hj : j < P.length := by omega
    have hpj : Bytes P[j] := hP _ (List.getElem_mem hj)
    have hh : r.length = 2 * 2 ^ m := by rw [hr, Nat.pow_succ, Nat.mul_comm]
    have h64 : 2 ^ (m + 1) ≤ 64 := Nat.le_trans (Nat.pow_le_pow_right (by omega) hm) (by decide)
    have hi2 : i < 2 * 2 ^ m := by rw [Nat.pow_succ] at hi; omega
    have hB1 : B ≤ 1000000 := Nat.le_trans (Nat.le_mul_of_pos_right _ (Nat.two_pow_pos _)) hB
    have hB2 : 2 * B * 2 ^ m ≤ 1000000 := by rw [Nat.pow_succ] at hB; rw [Nat.mul_comm 2 B, Nat.mul_assoc, Nat.mul_comm 2]; exact hB
    have hg := upL_get (i / 2) r (by omega)
    have a1 := (hx (r[2 * (i / 2)]'(by omega)) (List.getElem_mem _)).1
    have a2 := (hx (r[2 * (i / 2) + 1]'(by omega)) (List.getElem_mem _)).1
    by_cases ho : i % 2 = 1
    · obtain ⟨d', e, h1, h2⟩ := node_any P[j] d
      by_cases he : e = 0
      · obtain ⟨rfl, hsz⟩ := h2 he
        obtain ⟨c, hc, hd0⟩ := check_sound P hP hl root q m (2 * B) (upL r) (i / 2) (j + 1) (frameL 2 [P[j], d]) (by omega) (upL_len _ _ hh) (by omega) hB2 (upL_all r hx) (by omega) (bytes_two 2 hpj hd) hsz hroot
        refine ⟨c, check_step (by omega) (by omega) hj hl ⟨fun _ => ⟨_, e, h1, by rw [if_pos he]; exact hc⟩, fun h => absurd ho h⟩, fun h0 => ?_⟩
        have := hd0 h0
        rw [hg] at this
        have hs2 := hsz
        rw [frame_len, cat_two] at hs2
        have e2 := (pair_free (by decide) (by omega) (by omega) (by omega) (by omega) (Option.some.inj this)).2
        rw [List.getElem?_eq_getElem (by omega), ← e2]
        congr 2
        omega
      · exact ⟨10, check_step (by omega) (by omega) hj hl ⟨fun _ => ⟨_, e, h1, by rw [if_neg he]⟩, fun h => absurd ho h⟩, fun h => absurd h (by decide)⟩
    · obtain ⟨d', e, h1, h2⟩ := node_any d P[j]
      by_cases he : e = 0
      · obtain ⟨rfl, hsz⟩ := h2 he
        obtain ⟨c, hc, hd0⟩ := check_sound P hP hl root q m (2 * B) (upL r) (i / 2) (j + 1) (frameL 2 [d, P[j]]) (by omega) (upL_len _ _ hh) (by omega) hB2 (upL_all r hx) (by omega) (bytes_two 2 hd hpj) hsz hroot
        refine ⟨c, check_step (by omega) (by omega) hj hl ⟨fun h => absurd h ho, fun _ => ⟨_, e, h1, by rw [if_pos he]; exact hc⟩⟩, fun h0 => ?_⟩
        have := hd0 h0
        rw [hg] at this
        have hs2 := hsz
        rw [frame_len, cat_two] at hs2
        have e2 := (pair_free (by decide) (by omega) (by omega) (by omega) (by omega) (Option.some.inj this)).1
        rw [List.getElem?_eq_getElem (by omega), ← e2]
        congr 2
        omega
      · exact ⟨10, check_step (by omega) (by omega) hj hl ⟨fun h => absurd h ho, fun _ => ⟨_, e, h1, by rw [if_neg he]⟩⟩, fun h => absurd h (by decide)⟩
/-! ### the proof that is made -/
def sib (i : Nat) : Nat := if i % 2 = 1 then i - 1 else i + 1
def pathP : Nat → List (List Int) → Nat → List (List Int)
  | 0, _, _ => []
  | m + 1, r, i => r.getD (sib i) [] :: pathP m (upL r) (i / 2)
theorem xor_one (i : Nat) (hi : i < 64) : Go.bits .xor .i64 (i : Int) 1 = ((sib i : Nat) : Int) := by
  have h : ∀ x : Fin 64, Go.bits .xor .i64 ((x.val : Nat) : Int) 1 = ((sib x.val : Nat) : Int) := by decide +kernel
  exact h ⟨i, hi⟩
theorem sib_lt {i n : Nat} (h : i < 2 * n) : sib i < 2 * n := by unfold sib; split <;> omega
theorem pathP_len : ∀ (m : Nat) (r : List (List Int)) (i : Nat), (pathP m r i).length = m
  | 0, _, _ => rfl
  | m + 1, r, i => by simp [pathP, pathP_len m]
theorem path_loop : ∀ (m B : Nat) (r : List (List Int)) (i : Nat) (out : List (List Int)), r.length = 2 ^ m → m ≤ 6 → B * 2 ^ m ≤ 1000000 → (∀ x ∈ r, x.length + 10 ≤ B ∧ Bytes x) → i < 2 ^ m → out.length + m ≤ 1000 → Ev (fun k => slots_Path.l0 k 2 (i : Int) r out) (out ++ pathP m r i, 0)
  | 0, B, r, i, out, hr, hm, hB, hx, hi, ho => by
    refine Ev.step (f := fun _ => some (out ++ [], (0 : Int))) (fun k => ?_) (Ev.now _)
    simp only [slots_Path.l0]
    rw [if_neg (by rw [hr]; decide), List.append_nil]
  | m + 1, B, r, i, out, hr, hm, hB, hx, hi, ho => by
    have hh : r.length = 2 * 2 ^ m := by rw [hr, Nat.pow_succ, Nat.mul_comm]
    have h1 : 1 ≤ 2 ^ m := Nat.one_le_two_pow
    have h64 : 2 ^ (m + 1) ≤ 64 := Nat.le_trans (Nat.pow_le_pow_right (by omega) hm) (by decide)
    have hi2 : i < 2 * 2 ^ m := by rw [Nat.pow_succ] at hi; omega
    have hB1 : B ≤ 1000000 := Nat.le_trans (Nat.le_mul_of_pos_right _ (Nat.two_pow_pos _)) hB
    have hB2 : 2 * B * 2 ^ m ≤ 1000000 := by rw [Nat.pow_succ] at hB; rw [Nat.mul_comm 2 B, Nat.mul_assoc, Nat.mul_comm 2]; exact hB
    have hsb := sib_lt hi2
    have hsl : sib i < r.length := by omega
    have hsz := (hx _ (List.getElem_mem hsl)).1
    have hgd : r.getD (sib i) [] = r[sib i] := by simp [List.getD_eq_getElem?_getD, List.getElem?_eq_getElem hsl]
    have ih := path_loop m (2 * B) (upL r) (i / 2) (out ++ [r[sib i]]) (upL_len _ _ hh) (by omega) hB2 (upL_all r hx) (by omega) (by simp; omega)
    have hu := up_ev r (2 ^ m) hh (by omega) (fun x hx' => by have := (hx x hx').1; omega)
    simp only [pathP, hgd]
    rw [show out ++ r[sib i] :: pathP m (upL r) (i / 2) = (out ++ [r[sib i]]) ++ pathP m (upL r) (i / 2) by simp]
    refine Ev.step (f := fun k => (slots_up.f k 2 r).bind fun bt234 => (if bt234.2 = 0 then (slots_Path.l0 k 2 ((i / 2 : Nat) : Int) bt234.1 (out ++ [[] ++ r[sib i]])) else (some (([] : List (List Int)), bt234.2)))) (fun k => ?_) ?_
    · simp only [slots_Path.l0, Option.bind_some]
      rw [if_pos (by omega), xor_one i (by omega), if_pos (by omega), if_pos (by omega), rdLL_at hsl, if_pos (by simp; omega), if_pos (by omega), half_nat i (by omega)]
    · refine Ev.bind hu ?_
      simp only [if_true, List.nil_append]
      exact ih
theorem pathP_bytes : ∀ (m B : Nat) (r : List (List Int)) (i : Nat), r.length = 2 ^ m → (∀ x ∈ r, x.length + 10 ≤ B ∧ Bytes x) → i < 2 ^ m → ∀ p ∈ pathP m r i, Bytes p
  | 0, _, _, _, _, _, _, p, hp => by simp [pathP] at hp
  | m + 1, B, r, i, hr, hx, hi, p, hp => by
    have hh : r.length = 2 * 2 ^ m := by rw [hr, Nat.pow_succ, Nat.mul_comm]
    have hi2 : i < 2 * 2 ^ m := by rw [Nat.pow_succ] at hi; omega
    have hsb := sib_lt hi2
    simp only [pathP, List.mem_cons] at hp
    rcases hp with rfl | hp
    · have hsl : sib i < r.length := by omega
      rw [show r.getD (sib i) [] = r[sib i] by simp [List.getD_eq_getElem?_getD, List.getElem?_eq_getElem hsl]]
      exact (hx _ (List.getElem_mem hsl)).2
    · exact pathP_bytes m (2 * B) (upL r) (i / 2) (upL_len _ _ hh) (upL_all r hx) (by omega) p hp
theorem check_good (P : List (List Int)) (hl : P.length < 1000000000000000) (root : List Int) : ∀ (m B : Nat) (r : List (List Int)) (i j : Nat), P.drop j = pathP m r i → j + m = P.length → r.length = 2 ^ m → m ≤ 6 → B * 2 ^ m ≤ 1000000 → (∀ x ∈ r, x.length + 10 ≤ B ∧ Bytes x) → (hi : i < r.length) → root = rowR m r →
    Ev (fun k => slots_CheckPath.l0 k 2 root ((2 ^ m : Nat) : Int) (i : Int) r[i] P (P.length : Int) (j : Int)) 0
  | 0, B, r, i, j, hP, hj, hr, hm, hB, hx, hi, hroot => by
    have h := check_end (root := root) (n := 2 ^ 0) (i := i) (d := r[i]) (P := P) (j := j) (by omega)
    obtain ⟨x, rfl⟩ : ∃ x, r = [x] := by
      match r, hr with
      | [x], _ => exact ⟨x, rfl⟩
    have hxx : root = x := hroot
    have h00 : i = 0 := by simpa using hi
    subst h00 hxx
    rw [if_pos (by rfl), if_pos (by simp)] at h
    exact h
  | m + 1, B, r, i, j, hP, hj, hr, hm, hB, hx, hi, hroot => by
    have hh : r.length = 2 * 2 ^ m := by rw [hr, Nat.pow_succ, Nat.mul_comm]
    have h64 : 2 ^ (m + 1) ≤ 64 := Nat.le_trans (Nat.pow_le_pow_right (by omega) hm) (by decide)
    have hi2 : i < 2 * 2 ^ m := by omega
    have hB1 : B ≤ 1000000 := Nat.le_trans (Nat.le_mul_of_pos_right _ (Nat.two_pow_pos _)) hB
    have hB2 : 2 * B * 2 ^ m ≤ 1000000 := by rw [Nat.pow_succ] at hB; rw [Nat.mul_comm 2 B, Nat.mul_assoc, Nat.mul_comm 2]; exact hB
    have hsb := sib_lt hi2
    have hsl : sib i < r.length := by omega
    have hjl : j < P.length := by omega
    have hg := upL_get (i / 2) r (by omega)
    have hul : (upL r).length = 2 ^ m := upL_len _ _ hh
    have hpj : P[j] = r[sib i] := by
      have : P.drop j = P[j] :: P.drop (j + 1) := List.drop_eq_getElem_cons hjl
      rw [this] at hP
      simp only [pathP, List.cons.injEq] at hP
      rw [hP.1]
      simp [List.getD_eq_getElem?_getD, List.getElem?_eq_getElem hsl]
    have hpd : P.drop (j + 1) = pathP m (upL r) (i / 2) := by
      have : P.drop j = P[j] :: P.drop (j + 1) := List.drop_eq_getElem_cons hjl
      rw [this] at hP
      simp only [pathP, List.cons.injEq] at hP
      exact hP.2
    have ih := check_good P hl root m (2 * B) (upL r) (i / 2) (j + 1) hpd (by omega) hul (by omega) hB2 (upL_all r hx) (by omega) hroot
    have hgi : (upL r)[i / 2]'(by omega) = frameL 2 [r[2 * (i / 2)]'(by omega), r[2 * (i / 2) + 1]'(by omega)] := by
      rw [List.getElem?_eq_getElem (by omega)] at hg
      exact Option.some.inj hg
    rw [hgi] at ih
    have a1 := (hx _ (List.getElem_mem hi)).1
    have a2 := (hx _ (List.getElem_mem hsl)).1
    refine check_step (by omega) (by omega) hjl hl ⟨fun ho => ⟨frameL 2 [P[j], r[i]], 0, ?_, ?_⟩, fun ho => ⟨frameL 2 [r[i], P[j]], 0, ?_, ?_⟩⟩
    · rw [hpj]
      exact node_ev _ _ (by omega) (by omega)
    · rw [if_pos rfl, hpj]
      have e1 : r[sib i] = r[2 * (i / 2)]'(by omega) := by congr 1; unfold sib; rw [if_pos ho]; omega
      have e2 : r[i] = r[2 * (i / 2) + 1]'(by omega) := by congr 1; omega
      rw [e1, e2]
      exact ih
    · rw [hpj]
      exact node_ev _ _ (by omega) (by omega)
    · rw [if_pos rfl, hpj]
      have e1 : r[sib i] = r[2 * (i / 2) + 1]'(by omega) := by congr 1; unfold sib; rw [if_neg ho]; omega
      have e2 : r[i] = r[2 * (i / 2)]'(by omega) := by congr 1; omega
      rw [e1, e2]
      exact ih
theorem Check_ev {x : S44} (hx : Good x) {n i : Nat} (hn : Pow n) (hi : i < n) {root : List Int} {P : List (List Int)} {c : Int} (h : Ev (fun k => slots_CheckPath.l0 k 2 root (n : Int) (i : Int) (leafL x) P (P.length : Int) 0) c) : Ev (fun k => slots_CheckPath.f k 2 root (n : Int) (i : Int) x.f0 x.f1 x.f2 P) c := by
  refine Ev.congr (f := fun k => (slots_Leaf.f k 2 x.f0 x.f1 x.f2).bind fun bt241 => (if bt241.2 = 0 then (slots_CheckPath.l0 k 2 root (n : Int) (i : Int) bt241.1 P (P.length : Int) 0) else (some bt241.2))) (fun k => ?_) ?_
  · simp only [slots_CheckPath.f, slots_modes.f, power_yes hn]
    simp only [if_neg (show ¬ (2 : Int) = 1 by decide), Option.bind_some, if_pos (show ((2 : Int) == 2) = true by decide), if_true, if_neg (show ¬ (i : Int) < 0 by omega), if_neg (show ¬ (i : Int) ≥ (n : Int) by omega)]
  · refine Ev.bind (Leaf_ev hx) ?_
    simp only [if_true]
    exact h
theorem Path_ev {s : List S44} {m : Nat} (hm : m ≤ 4) (hl : s.length = 2 ^ m) (hp : Pow s.length) (hg : ∀ x ∈ s, Good x) {i : Nat} (hi : i < s.length) : Ev (fun k => slots_Path.f k 2 s (i : Int)) (pathP m (s.map leafL) i, 0) := by
  have hpw : 2 ^ m ≤ 16 := Nat.le_trans (Nat.pow_le_pow_right (by omega) hm) (by decide)
  simp only [slots_Path.f]
  refine Ev.bind (leaves_ev hp hg) ?_
  simp only [if_true, if_neg (show ¬ (i : Int) < 0 by omega), decide_eq_false (show ¬ (i : Int) ≥ (s.length : Int) by omega)]
  refine Ev.step (f := fun k => slots_Path.l0 k 2 (i : Int) (s.map leafL) []) (fun k => ?_) ?_
  · simp only [slots_Path.j0]
    rw [if_neg (by simp)]
  · have := path_loop m 44 (s.map leafL) i [] (by rw [List.length_map, hl]) (by omega) (by omega) (leaves_all hg) (by omega) (by simp; omega)
    simpa using this
theorem PathSound : chirographkeep_PathSound.Pure := by
  intro l a b0 b1 b2 b3 path _ _ _ _ _ _ _ _ hp1 _ hpw
  apply Ev.rounds
  obtain ⟨s, hs, hp, hg⟩ := slots_ev l
  obtain ⟨x, hx, hgx⟩ := slotOf_tells b0 b1 b2 b3
  obtain ⟨m, hm, hl⟩ := pow_is hp
  have h1 : 1 ≤ s.length := by unfold Pow at hp; omega
  have h16 : s.length ≤ 16 := by unfold Pow at hp; omega
  obtain ⟨i, hi, hi2⟩ : ∃ i : Nat, a % (s.length : Int) = (i : Int) ∧ i < s.length := by
    have h1 := Int.emod_nonneg a (show (s.length : Int) ≠ 0 by omega)
    have h2 := Int.emod_lt_of_pos a (show (0 : Int) < (s.length : Int) by omega)
    exact ⟨(a % (s.length : Int)).toNat, by omega, by omega⟩
  obtain ⟨ra, ba⟩ := SRoot_ev hm hl hp hg
  obtain ⟨b, hb, hb2⟩ := sameSlot_tells hgx (hg _ (List.getElem_mem hi2))
  have hpos := rowR_pos m (s.map leafL) (by rw [List.length_map, hl]) (fun y hy => by
    obtain ⟨z, hz, rfl⟩ := List.mem_map.1 hy
    unfold leafL
    split <;> (rw [frame_len]; omega))
  have hrl : (s.map leafL).length = 2 ^ m := by rw [List.length_map, hl]
  have hgi : (s.map leafL)[i]? = some (leafL s[i]) := by rw [List.getElem?_map, List.getElem?_eq_getElem hi2]; rfl
  have lx := leaf_len hgx
  have chk : ∀ P : List (List Int), (∀ p ∈ P, Bytes p) → P.length < 1000000000000000 → ∃ c, Ev (fun k => slots_CheckPath.f k 2 (rowR m (s.map leafL)) (s.length : Int) (i : Int) x.f0 x.f1 x.f2 P) c ∧ (c = 0 → x = s[i]) := by
    intro P hP hPl
    obtain ⟨c, hc, hd⟩ := check_sound P hP hPl (rowR m (s.map leafL)) P.length m 44 (s.map leafL) i 0 (leafL x) (by omega) hrl (by omega) (by omega) (leaves_all hg) (by omega) (leaf_bytes hgx) (by omega) rfl
    rw [← hl] at hc
    refine ⟨c, Check_ev hgx hp hi2 hc, fun h0 => ?_⟩
    have := hd h0
    rw [hgi] at this
    exact (leaf_inj (hg _ (List.getElem_mem hi2)) hgx (Option.some.inj this)).symm
  have bp : ∀ p ∈ path, Bytes p := fun p hm => u8_of (hpw p hm).2
  obtain ⟨c1, hc1, hd1⟩ := chk path bp (by unfold maxLen at hp1; omega)
  have il := pathP_len m (s.map leafL) i
  obtain ⟨c2, hc2, hd2⟩ := chk (pathP m (s.map leafL) i) (pathP_bytes m 44 _ i hrl (leaves_all hg) (by omega)) (by omega)
  simp only [chirographkeep_PathSound.f]
  refine Ev.bind hs ?_
  simp only [picked_emod a (s.length : Int) (by omega) (by omega), hi, Option.bind_some]
  refine Ev.bind ra ?_
  refine Ev.bind (Path_ev hm hl hp hg hi2) ?_
  simp only [hx, Option.bind_some]
  refine Ev.bind hc1 ?_
  by_cases heq : x = s[i]
  · have hgood := check_good (pathP m (s.map leafL) i) (by omega) (rowR m (s.map leafL)) m 44 (s.map leafL) i 0 (by simp) (by omega) hrl (by omega) (by omega) (leaves_all hg) (by omega) rfl
    rw [show (s.map leafL)[i]'(by omega) = leafL x by rw [List.getElem_map, heq], ← hl] at hgood
    refine Ev.bind (Check_ev hgx hp hi2 hgood) ?_
    have hbt := hb2.2 heq
    subst hbt
    simp only [if_true, if_pos (show ((rowR m (s.map leafL)).length : Int) > 0 by omega), if_pos (show (0 : Int) ≤ (i : Int) by omega), if_pos (show (i : Int) < (s.length : Int) by omega), rdS_at hi2, hb, Option.bind_some]
    split <;> exact Ev.now _
  · refine Ev.bind hc2 ?_
    have n1 : ¬ c1 = 0 := fun h => heq (hd1 h)
    have n2 : (c2 == 0) = false := beq_eq_false_iff_ne.2 (fun h => heq (hd2 h))
    have hbf : b = false := by
      cases b with
      | false => rfl
      | true => exact absurd (hb2.1 rfl) heq
    subst hbf
    simp only [if_true, if_neg n1, if_pos (show ((rowR m (s.map leafL)).length : Int) > 0 by omega), if_pos (show (0 : Int) ≤ (i : Int) by omega), if_pos (show (i : Int) < (s.length : Int) by omega), rdS_at hi2, hb, Option.bind_some, n2]
    exact Ev.now _

end Go.Proofs.YtpgegljlgicpkaaDoor.Pure
