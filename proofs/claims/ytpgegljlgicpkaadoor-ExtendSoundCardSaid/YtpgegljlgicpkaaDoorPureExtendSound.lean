/- ExtendSound: of a list that began otherwise it is never proved that it began so, whatever is handed in: for all lists of raw things, whole numbers and lists of bytes the law's pure form tells true. Conditions: none beyond the arguments' own kinds and sizes. -/
import Derived.Lib.Bytes
import Derived.Test.YtpgegljlgicpkaaDoorQExtendSoundx6
namespace Go.Proofs.YtpgegljlgicpkaaDoor.Pure
open Go.RowKit Go.Proofs.YtpgegljlgicpkaaDoor.QExtendSound Go.Proofs.YtpgegljlgicpkaaDoorW.PrintWords Go.Proofs.YtpgegljlgicpkaaDoorW.PrintLast

set_option linter.unusedVariables false
set_option linter.unusedSimpArgs false

/-! ### frames, as lists of numbers -/
def four (n : Int) : List Int := [(n / 16777216) % 256, (n / 65536) % 256, (n / 256) % 256, n % 256]
def cat (ps : List (List Int)) : List Int := ps.flatMap fun p => four (p.length : Int) ++ p
def frameL (t : Int) (ps : List (List Int)) : List Int := [t % 256, (ps.length : Int) % 256] ++ cat ps
theorem four_length (n : Int) : (four n).length = 4 := rfl
theorem cat_nil : cat [] = [] := rfl
theorem cat_cons (p : List Int) (ps : List (List Int)) : cat (p :: ps) = four (p.length : Int) ++ p ++ cat ps := by unfold cat; rw [List.flatMap_cons]
theorem cat_append (ps qs : List (List Int)) : cat (ps ++ qs) = cat ps ++ cat qs := by unfold cat; rw [List.flatMap_append]
theorem cat_part {ps : List (List Int)} {i : Nat} (h : i < ps.length) : (cat (ps.drop i)).length = 4 + ps[i].length + (cat (ps.drop (i + 1))).length := by
  rw [List.drop_eq_getElem_cons h, cat_cons]
  simp only [List.length_append, four_length]
theorem rdLL_at {ps : List (List Int)} {i : Nat} (h : i < ps.length) : rd_L4 ps (i : Int) = ps[i] := by
  unfold rd_L4
  simp [List.getD_eq_getElem?_getD, List.getElem?_eq_getElem h]
theorem rd_at {l : List Int} {i : Nat} (h : i < l.length) : rd l (i : Int) = l[i] := by
  unfold rd
  simp [List.getD_eq_getElem?_getD, List.getElem?_eq_getElem h]
theorem w64 (x : Int) (h : -9223372036854775808 ≤ x ∧ x < 9223372036854775808) : wrap64 x = x := by unfold wrap64; omega

theorem frame_loop (ps : List (List Int)) (hps : ps.length < 1000000) (d : Nat) : ∀ (i : Nat) (out : List Int), i + d = ps.length → (out ++ cat (ps.drop i)).length < 140737488355328 →
    Ev (fun k => oracle_frame.l0 k out ps (ps.length : Int) (i : Int)) (out ++ cat (ps.drop i)) := by
  induction d with
  | zero =>
    intro i out hi hl
    refine Ev.step (f := fun _ => some (out ++ cat (ps.drop i))) (fun k => ?_) (Ev.now _)
    simp only [oracle_frame.l0]
    rw [if_neg (by omega), List.drop_of_length_le (by omega), cat_nil, List.append_nil]
  | succ d ih =>
    intro i out hi hl
    have hlt : i < ps.length := by omega
    have hp := cat_part hlt
    rw [List.length_append, hp] at hl
    have hw : wrap64 ((i : Int) + 1) = ((i + 1 : Nat) : Int) := by rw [w64 _ (by omega)]; omega
    have e : out ++ cat (ps.drop i) = (out ++ four (ps[i].length : Int) ++ ps[i]) ++ cat (ps.drop (i + 1)) := by
      rw [List.drop_eq_getElem_cons hlt, cat_cons]
      simp only [List.append_assoc]
    rw [e]
    refine Ev.step (f := fun k => oracle_frame.l0 k (out ++ four (ps[i].length : Int) ++ ps[i]) ps (ps.length : Int) ((i + 1 : Nat) : Int)) (fun k => ?_) (ih (i + 1) (out ++ four (ps[i].length : Int) ++ ps[i]) (by omega) (by simp only [List.length_append, four_length]; omega))
    simp only [oracle_frame.l0]
    rw [if_pos (by omega), if_pos (by omega), if_pos (by omega), rdLL_at hlt]
    simp only [oracle_four.f, Option.bind_some]
    rw [if_pos (by simp only [List.length_cons, List.length_nil]; omega), if_pos (by simp only [List.length_append, List.length_cons, List.length_nil]; omega), hw]
    rfl
theorem frame_ev (t : Int) (ps : List (List Int)) (hps : ps.length < 1000000) (hl : (frameL t ps).length < 140737488355328) : Ev (fun k => oracle_frame.f k t ps) (frameL t ps) := by
  have h := frame_loop ps hps ps.length 0 [t % 256, (ps.length : Int) % 256] (by omega) (by simpa [frameL] using hl)
  exact h
theorem Frame_loop (t : Int) (ps : List (List Int)) (hps : ps.length ≤ 8) (hl : (frameL t ps).length ≤ 16777216) (d : Nat) : ∀ (i : Nat) (all : Int), i + d = ps.length → all + (cat (ps.drop i)).length = (frameL t ps).length → 0 ≤ all →
    Ev (fun k => oracle_Frame.l0 k t ps all ps (ps.length : Int) (i : Int)) (frameL t ps, 0) := by
  induction d with
  | zero =>
    intro i all hi ha h0
    rw [List.drop_of_length_le (by omega), cat_nil] at ha
    simp only [List.length_nil] at ha
    refine Ev.step (f := fun k => (oracle_frame.f k t ps).bind fun t118 => some (t118, 0)) (fun k => ?_) (Ev.bind (frame_ev t ps (by omega) (by omega)) (Ev.now _))
    simp only [oracle_Frame.l0]
    rw [if_neg (by omega), if_neg (by omega)]
  | succ d ih =>
    intro i all hi ha h0
    have hlt : i < ps.length := by omega
    have hp := cat_part hlt
    have hw : wrap64 ((i : Int) + 1) = ((i + 1 : Nat) : Int) := by rw [w64 _ (by omega)]; omega
    refine Ev.step (f := fun k => oracle_Frame.l0 k t ps (all + (4 + (ps[i].length : Int))) ps (ps.length : Int) ((i + 1 : Nat) : Int)) (fun k => ?_) (ih (i + 1) (all + (4 + (ps[i].length : Int))) (by omega) (by omega) (by omega))
    simp only [oracle_Frame.l0]
    rw [if_pos (by omega), if_pos (by omega), if_pos (by omega), rdLL_at hlt, if_neg (by omega), hw, w64 (4 + _) (by omega), w64 (all + _) (by omega)]
theorem Frame_ok (t : Int) (ps : List (List Int)) (ht : 1 ≤ t ∧ t ≤ 9) (hps : ps.length ≤ 8) (hl : (frameL t ps).length ≤ 16777216) : Ev (fun k => oracle_Frame.f k t ps) (frameL t ps, 0) := by
  have h := Frame_loop t ps hps hl ps.length 0 2 (by omega) (by simp [frameL]; omega) (by omega)
  refine Ev.congr (f := fun k => oracle_Frame.j0 k t ps false) (fun k => ?_) ?_
  · simp only [oracle_Frame.f]
    rw [if_neg (by omega), decide_eq_false (by omega)]
  · refine Ev.step (f := fun k => oracle_Frame.l0 k t ps 2 ps (ps.length : Int) 0) (fun k => ?_) h
    simp only [oracle_Frame.j0]
    rw [if_neg (by simp), if_neg (by omega)]
theorem four_bytes (a : Int) : ∀ x ∈ four a, 0 ≤ x ∧ x < 256 := by
  intro x hx
  simp [four] at hx
  omega

/-! ### frames taken apart -/
def be4 (b : List Int) : Int := b.getD 0 0 * 16777216 + b.getD 1 0 * 65536 + b.getD 2 0 * 256 + b.getD 3 0
def Bytes (b : List Int) : Prop := ∀ x ∈ b, 0 ≤ x ∧ x < 256
def pl (t : Int) : Nat → List Int → List (List Int) → Int × List (List Int) × Int
  | 0, b, acc => if b.length > 0 then (0, [], 3) else (t, acc, 0)
  | n + 1, b, acc => if b.length < 4 then (0, [], 4) else if ((b.drop 4).length : Int) < be4 b then (0, [], 4) else pl t n ((b.drop 4).drop (be4 b).toNat) (acc ++ [(b.drop 4).take (be4 b).toNat])
def parse (b : List Int) : Int × List (List Int) × Int :=
  if b.length > 16777216 then (0, [], 1) else if b.length < 1 then (0, [], 4) else if b.getD 0 0 < 1 ∨ b.getD 0 0 > 9 then (0, [], 6) else
    if b.length < 2 then (0, [], 4) else if b.getD 1 0 > 8 then (0, [], 1) else pl (b.getD 0 0) (b.getD 1 0).toNat (b.drop 2) []
theorem Bytes.at_ {b : List Int} (h : Bytes b) (i : Nat) : 0 ≤ b.getD i 0 ∧ b.getD i 0 < 256 := by
  rw [List.getD_eq_getElem?_getD]
  by_cases hi : i < b.length
  · rw [List.getElem?_eq_getElem hi]; exact h _ (List.getElem_mem hi)
  · rw [List.getElem?_eq_none (by omega)]; simp
theorem Bytes.drop {b : List Int} (h : Bytes b) (n : Nat) : Bytes (b.drop n) := fun x hx => h x (List.mem_of_mem_drop hx)
theorem Bytes.take {b : List Int} (h : Bytes b) (n : Nat) : Bytes (b.take n) := fun x hx => h x (List.mem_of_mem_take hx)
theorem join63 (i : Nat) (x y : Int) (h0 : 0 ≤ x) (h1 : x % 2 ^ i = 0) (h2 : x < 2 ^ 63) (h3 : 0 ≤ y) (h4 : y < 2 ^ i) (h5 : y < 2 ^ 63) : Go.bits .or .i64 x y = x + y :=
  bits_join .i64 63 (by decide) (fun n h0 h1 => by rw [IntKind.wrap_i64]; omega) i x y h0 h1 h2 h3 h4 h5
theorem or4 (a b c d : Int) (ha : 0 ≤ a ∧ a < 256) (hb : 0 ≤ b ∧ b < 256) (hc : 0 ≤ c ∧ c < 256) (hd : 0 ≤ d ∧ d < 256) :
    (Go.bits .or .i64 (Go.bits .or .i64 (Go.bits .or .i64 (wrap64 ((wrap64 a) * 16777216)) (wrap64 ((wrap64 b) * 65536))) (wrap64 ((wrap64 c) * 256))) (wrap64 d)) = a * 16777216 + b * 65536 + c * 256 + d := by
  rw [w64 a (by omega), w64 b (by omega), w64 c (by omega), w64 d (by omega), w64 (a * _) (by omega), w64 (b * _) (by omega), w64 (c * _) (by omega)]
  rw [join63 24 (a * 16777216) (b * 65536) (by omega) (by omega) (by omega) (by omega) (by omega) (by omega)]
  rw [join63 16 _ (c * 256) (by omega) (by omega) (by omega) (by omega) (by omega) (by omega)]
  rw [join63 8 _ d (by omega) (by omega) (by omega) (by omega) (by omega) (by omega)]
theorem be4_range {b : List Int} (h : Bytes b) : 0 ≤ be4 b ∧ be4 b < 4294967296 := by
  have := h.at_ 0; have := h.at_ 1; have := h.at_ 2; have := h.at_ 3
  unfold be4
  omega
theorem rd_be4 {b : List Int} (h : Bytes b) : (Go.bits .or .i64 (Go.bits .or .i64 (Go.bits .or .i64 (wrap64 ((wrap64 (rd b 0)) * 16777216)) (wrap64 ((wrap64 (rd b 1)) * 65536))) (wrap64 ((wrap64 (rd b 2)) * 256))) (wrap64 (rd b 3))) = be4 b :=
  or4 _ _ _ _ (h.at_ 0) (h.at_ 1) (h.at_ 2) (h.at_ 3)

/-! ### what was put together is taken apart -/
theorem be4_four (n : Int) (h : 0 ≤ n ∧ n < 4294967296) (r : List Int) : be4 (four n ++ r) = n := by
  simp [four, be4]
  omega
theorem pl_cat (t : Int) : ∀ (ps acc : List (List Int)), (∀ p ∈ ps, p.length < 4294967296) → pl t ps.length (cat ps) acc = (t, acc ++ ps, 0)
  | [], acc, _ => by simp [pl, cat]
  | p :: ps, acc, h => by
    have hp := h p List.mem_cons_self
    have hb : be4 (cat (p :: ps)) = p.length := by
      rw [cat_cons, List.append_assoc]
      exact be4_four _ (by omega) _
    have hd : (cat (p :: ps)).drop 4 = p ++ cat ps := by
      rw [cat_cons, List.append_assoc]
      rfl
    have hl : (cat (p :: ps)).length = 4 + p.length + (cat ps).length := by
      rw [cat_cons]
      simp only [List.length_append, four_length]
    simp only [List.length_cons, pl]
    rw [if_neg (by omega), hb, hd, if_neg (by rw [List.length_append]; omega), Int.toNat_natCast, List.drop_left, List.take_left, pl_cat t ps (acc ++ [p]) (fun q hq => h q (List.mem_cons_of_mem _ hq)), List.append_assoc]
    rfl
theorem parse_frame (t : Int) (ps : List (List Int)) (ht : 1 ≤ t ∧ t ≤ 9) (hn : ps.length ≤ 8) (hl : (frameL t ps).length ≤ 16777216) (hp : ∀ p ∈ ps, p.length < 4294967296) : parse (frameL t ps) = (t, ps, 0) := by
  have h0 : (frameL t ps).getD 0 0 = t := by
    show t % 256 = t
    omega
  have h1 : (frameL t ps).getD 1 0 = ps.length := by
    show (ps.length : Int) % 256 = ps.length
    omega
  have h2 : 2 ≤ (frameL t ps).length := by simp [frameL]
  have h3 : (frameL t ps).drop 2 = cat ps := rfl
  unfold parse
  rw [if_neg (by omega), if_neg (by omega), h0, if_neg (by omega), if_neg (by omega), h1, if_neg (by omega), h3, Int.toNat_natCast, pl_cat t ps [] hp]
  rfl
theorem cat_free : ∀ (p q : List (List Int)) (z z2 : List Int), (∀ x ∈ p, x.length < 4294967296) → (∀ x ∈ q, x.length < 4294967296) → p.length = q.length → cat p ++ z = cat q ++ z2 → p = q
  | [], [], _, _, _, _, _, _ => rfl
  | [], _ :: _, _, _, _, _, h, _ => by simp at h
  | _ :: _, [], _, _, _, _, h, _ => by simp at h
  | x :: p, y :: q, z, z2, hp, hq, hl, h => by
    have hx := hp x List.mem_cons_self
    have hy := hq y List.mem_cons_self
    rw [cat_cons, cat_cons] at h
    simp only [List.append_assoc] at h
    have hb : (x.length : Int) = y.length := by
      rw [← be4_four x.length (by omega) (x ++ (cat p ++ z)), ← be4_four y.length (by omega) (y ++ (cat q ++ z2)), h]
    have hd : x ++ (cat p ++ z) = y ++ (cat q ++ z2) := by
      have := congrArg (List.drop 4) h
      exact this
    obtain ⟨e1, e2⟩ := List.append_inj hd (by omega)
    have := cat_free p q z z2 (fun w hw => hp w (List.mem_cons_of_mem _ hw)) (fun w hw => hq w (List.mem_cons_of_mem _ hw)) (by simpa using hl) e2
    rw [e1, this]
theorem frame_free {t u : Int} {p q : List (List Int)} {z z2 : List Int} (ht : 1 ≤ t ∧ t ≤ 9) (hu : 1 ≤ u ∧ u ≤ 9) (hn : p.length ≤ 8) (hm : q.length ≤ 8) (hp : ∀ x ∈ p, x.length < 4294967296) (hq : ∀ x ∈ q, x.length < 4294967296)
    (h : frameL t p ++ z = frameL u q ++ z2) : t = u ∧ p = q := by
  have h0 : t % 256 = u % 256 := by
    have := congrArg (fun l : List Int => l.getD 0 0) h
    exact this
  have h1 : (p.length : Int) % 256 = (q.length : Int) % 256 := by
    have := congrArg (fun l : List Int => l.getD 1 0) h
    exact this
  have h2 : cat p ++ z = cat q ++ z2 := by
    have := congrArg (List.drop 2) h
    exact this
  exact ⟨by omega, cat_free p q z z2 hp hq (by omega) h2⟩
theorem frame_cut {t u : Int} {p q : List (List Int)} (ht : 1 ≤ t ∧ t ≤ 9) (hu : 1 ≤ u ∧ u ≤ 9) (hn : p.length ≤ 8) (hm : q.length ≤ 8) (hp : ∀ x ∈ p, x.length < 4294967296) (hq : ∀ x ∈ q, x.length < 4294967296) (n : Nat)
    (hl : n = (frameL t p).length ∨ n = (frameL u q).length) (hle : n ≤ (frameL t p).length ∧ n ≤ (frameL u q).length) (h : (frameL t p).take n = (frameL u q).take n) : t = u ∧ p = q := by
  rcases hl with e | e
  · have h1 : frameL t p ++ (frameL u q).drop n = frameL u q ++ [] := by
      rw [List.append_nil]
      have h2 : (frameL t p).take n = frameL t p := List.take_of_length_le (by omega)
      rw [← h2, h, List.take_append_drop]
    exact frame_free ht hu hn hm hp hq h1
  · have h1 : frameL t p ++ [] = frameL u q ++ (frameL t p).drop n := by
      rw [List.append_nil]
      have h2 : (frameL u q).take n = frameL u q := List.take_of_length_le (by omega)
      rw [← h2, ← h, List.take_append_drop]
    exact frame_free ht hu hn hm hp hq h1

/-! ### lists of bytes, compared -/
theorem str_iff {a b : List Int} (ha : Bytes a) (hb : Bytes b) : (strOfNums a).toList = (strOfNums b).toList ↔ a = b := by
  constructor
  · intro h
    rw [Lib.strOfNums_toList, Lib.strOfNums_toList] at h
    have h2 := congrArg (List.map fun u : UInt8 => (u.toNat : Int)) h
    simp only [Lib.bytesOf, List.map_map] at h2
    have e : ∀ l : List Int, Bytes l → l.map ((fun u : UInt8 => (u.toNat : Int)) ∘ fun n => UInt8.ofNat n.toNat) = l := fun l hl => by
      conv => rhs; rw [← List.map_id l]
      apply List.map_congr_left
      intro n hn
      have := hl n hn
      simp
      omega
    rw [e a ha, e b hb] at h2
    exact h2
  · rintro rfl
    rfl
theorem sameLists_ev (p q : List (List Int)) (hp : ∀ x ∈ p, Bytes x) (hq : ∀ x ∈ q, Bytes x) (hl : p.length < 1000000) : Ev (fun k => chirographkeep_sameLists.f k p q) (decide (p = q)) := by
  by_cases hlen : p.length = q.length
  · have loop : ∀ (d i : Nat), i + d = p.length → Ev (fun k => chirographkeep_sameLists.l0 k p q (p.length : Int) (i : Int)) (decide (p.drop i = q.drop i)) := by
      intro d
      induction d with
      | zero =>
        intro i hi
        rw [List.drop_of_length_le (by omega), List.drop_of_length_le (by omega)]
        refine Ev.step (f := fun _ => some (decide (([] : List (List Int)) = []))) (fun k => ?_) (Ev.now _)
        simp only [chirographkeep_sameLists.l0]
        rw [if_neg (by omega)]
        simp
      | succ d ih =>
        intro i hi
        have h1 : i < p.length := by omega
        have h2 : i < q.length := by omega
        have hw : wrap64 ((i : Int) + 1) = ((i + 1 : Nat) : Int) := by rw [w64 _ (by omega)]; omega
        rw [List.drop_eq_getElem_cons h1, List.drop_eq_getElem_cons h2]
        have hs := str_iff (hp _ (List.getElem_mem h1)) (hq _ (List.getElem_mem h2))
        by_cases he : p[i] = q[i]
        · have e : decide (p[i] :: p.drop (i + 1) = q[i] :: q.drop (i + 1)) = decide (p.drop (i + 1) = q.drop (i + 1)) := by
            refine decide_eq_decide.2 ⟨fun h => (List.cons.inj h).2, fun h => ?_⟩
            rw [he, h]
          rw [e]
          refine Ev.step (fun k => ?_) (ih (i + 1) (by omega))
          simp only [chirographkeep_sameLists.l0]
          rw [if_pos (by omega), if_pos (by omega), if_pos (by omega), if_pos (by omega), rdLL_at h1, rdLL_at h2, if_pos (hs.2 he), hw]
        · have e : decide (p[i] :: p.drop (i + 1) = q[i] :: q.drop (i + 1)) = false := decide_eq_false (fun h => he (List.cons.inj h).1)
          rw [e]
          refine Ev.step (f := fun _ => some false) (fun k => ?_) (Ev.now _)
          simp only [chirographkeep_sameLists.l0]
          rw [if_pos (by omega), if_pos (by omega), if_pos (by omega), if_pos (by omega), rdLL_at h1, rdLL_at h2, if_neg (fun h => he (hs.1 h))]
    refine Ev.congr (fun k => ?_) (loop p.length 0 (by omega))
    simp only [chirographkeep_sameLists.f]
    rw [if_pos (by omega)]
    rfl
  · have e : decide (p = q) = false := decide_eq_false (fun h => hlen (by rw [h]))
    rw [e]
    refine Ev.congr (f := fun _ => some false) (fun k => ?_) (Ev.now _)
    simp only [chirographkeep_sameLists.f]
    rw [if_neg (by omega)]

theorem rdR_at {l : List S40} {i : Nat} (h : i < l.length) : rd_T40 l (i : Int) = l[i] := by
  unfold rd_T40
  simp [List.getD_eq_getElem?_getD, List.getElem?_eq_getElem h]
theorem some_ev (l : List S40) (n : Nat) : chirographkeep_some.f l (n : Int) = some (l.take n) := by
  unfold chirographkeep_some.f mn
  split
  · rw [if_pos (by omega), if_pos (by omega), Int.toNat_natCast]
  · rw [if_pos (by omega), if_pos (by omega), Int.toNat_natCast, List.take_of_length_le (by omega), List.take_of_length_le (by omega)]
def tx (r : S40) : List Int := bytesOf (r.f3.extract 0 ((mn (r.f3.size : Int) 12) : Int).toNat)
theorem mn_range (s : Nat) : 0 ≤ mn (s : Int) 12 ∧ mn (s : Int) 12 ≤ (s : Int) ∧ mn (s : Int) 12 ≤ 12 := by
  unfold mn
  split <;> omega
theorem ex_size (r : S40) : (r.f3.extract 0 ((mn (r.f3.size : Int) 12) : Int).toNat).size ≤ 12 := by
  have := mn_range r.f3.size
  rw [ByteArray.size_extract]
  omega
theorem tx_size (r : S40) : (tx r).length ≤ 12 := by
  unfold tx
  rw [bytesOf_length]
  exact ex_size r
theorem bytes_of (s : ByteArray) : Bytes (bytesOf s) := by
  intro x hx
  simp only [bytesOf, List.mem_map] at hx
  obtain ⟨u, _, rfl⟩ := hx
  have := UInt8.toNat_lt u
  omega
theorem entries_ev (l : List S40) : Ev (fun k => chirographkeep_entriesOf.f k l) ((l.take 20).map tx) := by
  have loop : ∀ (t : List S40), t.length ≤ 20 → ∀ (d i : Nat) (out : List (List Int)), i + d = t.length → out.length ≤ i → Ev (fun k => chirographkeep_entriesOf.l0 k out t (t.length : Int) (i : Int)) (out ++ (t.drop i).map tx) := by
    intro t ht d
    induction d with
    | zero =>
      intro i out hi ho
      rw [List.drop_of_length_le (by omega)]
      refine Ev.step (f := fun _ => some (out ++ [])) (fun k => ?_) (Ev.now _)
      simp only [chirographkeep_entriesOf.l0]
      rw [if_neg (by omega), List.append_nil]
    | succ d ih =>
      intro i out hi ho
      have hlt : i < t.length := by omega
      have hw : wrap64 ((i : Int) + 1) = ((i + 1 : Nat) : Int) := by rw [w64 _ (by omega)]; omega
      have hr := mn_range t[i].f3.size
      have hs := ex_size t[i]
      have hn := ih (i + 1) (out ++ [tx t[i]]) (by omega) (by rw [List.length_append, List.length_singleton]; omega)
      rw [List.append_assoc, List.singleton_append, ← List.map_cons, ← List.drop_eq_getElem_cons hlt] at hn
      refine Ev.step (fun k => ?_) hn
      simp only [chirographkeep_entriesOf.l0]
      rw [if_pos (by omega), if_pos (by omega), if_pos (by omega), rdR_at hlt, if_pos hr.1, if_pos hr.2.1, if_pos (by omega), if_pos (by omega), hw]
      rfl
  have h := loop (l.take 20) (by rw [List.length_take]; omega) (l.take 20).length 0 [] (by omega) (by simp)
  refine Ev.congr (fun k => ?_) h
  simp only [chirographkeep_entriesOf.f]
  rw [show (20 : Int) = ((20 : Nat) : Int) from rfl, some_ev, Option.bind_some]
  rfl
theorem entries_are (l : List S40) : ((l.take 20).map tx).length ≤ 20 ∧ ∀ p ∈ (l.take 20).map tx, p.length ≤ 12 ∧ Bytes p := by
  refine ⟨by rw [List.length_map, List.length_take]; omega, fun p hp => ?_⟩
  obtain ⟨r, _, rfl⟩ := List.mem_map.1 hp
  exact ⟨tx_size r, bytes_of _⟩
theorem cat_short : ∀ (ps : List (List Int)), (∀ p ∈ ps, p.length ≤ 12) → (cat ps).length ≤ 16 * ps.length
  | [], _ => by simp [cat]
  | p :: ps, h => by
    have h1 := h p List.mem_cons_self
    have h2 := cat_short ps (fun q hq => h q (List.mem_cons_of_mem _ hq))
    rw [cat_cons]
    simp only [List.length_append, four_length, List.length_cons]
    omega
theorem frame_len (t : Int) (ps : List (List Int)) : (frameL t ps).length = 2 + (cat ps).length := by
  simp only [frameL, List.length_append, List.length_cons, List.length_nil]
theorem bytes_cat : ∀ (ps : List (List Int)), (∀ p ∈ ps, Bytes p) → Bytes (cat ps)
  | [], _, x, hx => by simp [cat] at hx
  | p :: ps, h, x, hx => by
    rw [cat_cons] at hx
    rcases List.mem_append.1 hx with hx | hx
    · rcases List.mem_append.1 hx with hx | hx
      · exact four_bytes _ x hx
      · exact h p List.mem_cons_self x hx
    · exact bytes_cat ps (fun q hq => h q (List.mem_cons_of_mem _ hq)) x hx
theorem bytes_frame (t : Int) (ps : List (List Int)) (h : ∀ p ∈ ps, Bytes p) : Bytes (frameL t ps) := by
  intro x hx
  rcases List.mem_append.1 hx with hx | hx
  · simp only [List.mem_cons, List.not_mem_nil, or_false] at hx
    rcases hx with rfl | rfl <;> omega
  · exact bytes_cat ps h x hx

theorem picked_emod (a m : Int) (hm : 0 < m) (hm2 : m < 9223372036854775808) : chirographkeep_picked.f a m = some (a % m) := by
  unfold chirographkeep_picked.f
  rw [if_neg (by omega)]
  have h0 := Int.emod_nonneg a (show m ≠ 0 by omega)
  have h1 := Int.emod_lt_of_pos a hm
  have e : Int.tmod a m = a % m ∨ (Int.tmod a m = a % m - m ∧ 0 < a % m) := by
    rw [Int.tmod_eq_emod]
    split
    · left; omega
    · right
      have : ¬ m ∣ a := fun h => by simp_all
      have := Int.emod_pos_of_not_dvd this
      omega
  rcases e with e | ⟨e, hp⟩
  · rw [e, if_neg (by omega)]
  · rw [e, if_pos (by omega)]; unfold wrap64; congr 1; omega

/-! ### open digests and roots, as lists of numbers -/
theorem Digest_open (t : Int) (ps : List (List Int)) (ht : 1 ≤ t ∧ t ≤ 9) (hps : ps.length ≤ 8) (hl : (frameL t ps).length ≤ 16777216) : Ev (fun k => oracle_Digest.f k 2 t ps) (frameL t ps, 0) := by
  refine Ev.congr (f := fun k => oracle_Digest.j0 k 2 t ps false) (fun k => ?_) ?_
  · simp only [oracle_Digest.f]
    rw [if_neg (by decide)]
    rfl
  · refine Ev.step (f := fun k => (oracle_Frame.f k t ps).bind fun b => if b.2 = 0 then (if (2 : Int) = 2 then some (b.1, b.2) else none) else some (b.1, b.2)) (fun k => ?_) (Ev.bind (Frame_ok t ps ht hps hl) (Ev.now _))
    simp only [oracle_Digest.j0]
    rw [if_neg (by simp)]
def hh : Nat → Nat → Nat → Nat
  | 0, _, k => k
  | f + 1, n, k => if 2 * k < n then hh f n (2 * k) else k
def H (n : Nat) : Nat := hh n n 1
theorem half_loop : ∀ (f n k : Nat), n ≤ 1000000 → 1 ≤ k → k ≤ 1000000 → n ≤ k + f → Ev (fun r => roll_half.l0 r (n : Int) (k : Int)) ((hh f n k : Nat) : Int)
  | 0, n, k, hn, h1, h2, h3 => by
    refine Ev.step (f := fun _ => some (k : Int)) (fun r => ?_) (Ev.now _)
    simp only [roll_half.l0]
    rw [w64 _ (by omega), if_neg (by omega)]
  | f + 1, n, k, hn, h1, h2, h3 => by
    unfold hh
    by_cases h : 2 * k < n
    · rw [if_pos h]
      refine Ev.step (f := fun r => roll_half.l0 r (n : Int) ((2 * k : Nat) : Int)) (fun r => ?_) (half_loop f n (2 * k) hn (by omega) (by omega) (by omega))
      simp only [roll_half.l0]
      rw [w64 (2 * _) (by omega), if_pos (by omega), w64 (_ * 2) (by omega), show (k : Int) * 2 = ((2 * k : Nat) : Int) by omega]
    · rw [if_neg h]
      refine Ev.step (f := fun _ => some (k : Int)) (fun r => ?_) (Ev.now _)
      simp only [roll_half.l0]
      rw [w64 _ (by omega), if_neg (by omega)]
theorem half_ev (n : Nat) (hn : n ≤ 1000000) : Ev (fun r => roll_half.f r (n : Int)) ((H n : Nat) : Int) := half_loop n n 1 hn (by omega) (by omega) (by omega)
theorem hh_range : ∀ (f n k : Nat), 1 ≤ k → k < n → 1 ≤ hh f n k ∧ hh f n k < n
  | 0, _, _, h1, h2 => ⟨h1, h2⟩
  | f + 1, n, k, h1, h2 => by
    unfold hh
    split
    · exact hh_range f n (2 * k) (by omega) (by omega)
    · exact ⟨h1, h2⟩
theorem H_range {n : Nat} (h : 2 ≤ n) : 1 ≤ H n ∧ H n < n := hh_range n n 1 (by omega) (by omega)
def rootL : Nat → List (List Int) → List Int
  | 0, _ => []
  | f + 1, l => if l.length = 0 then frameL 4 [] else if l.length = 1 then frameL 5 l else frameL 6 [rootL f (l.take (H l.length)), rootL f (l.drop (H l.length))]
theorem cat_two (a b : List Int) : (cat [a, b]).length = 8 + a.length + b.length := by
  rw [cat_cons, cat_cons, cat_nil]
  simp only [List.length_append, four_length, List.length_nil]
  omega
theorem cat_one (a : List Int) : (cat [a]).length = 4 + a.length := by
  rw [cat_cons, cat_nil]
  simp only [List.length_append, four_length, List.length_nil]
  omega
theorem one_of {l : List (List Int)} (h : l.length = 1) : ∃ x, l = [x] := by
  match l, h with
  | [x], _ => exact ⟨x, rfl⟩
theorem rootL_len : ∀ (f : Nat) (l : List (List Int)), (∀ x ∈ l, x.length ≤ 12) → 1 ≤ l.length → (rootL f l).length + 10 ≤ 40 * l.length
  | 0, l, _, h => by simp only [rootL, List.length_nil]; omega
  | f + 1, l, hx, h => by
    unfold rootL
    rw [if_neg (by omega)]
    by_cases h1 : l.length = 1
    · rw [if_pos h1]
      obtain ⟨x, rfl⟩ := one_of h1
      have := hx x (by simp)
      rw [frame_len, cat_one, List.length_singleton]
      omega
    · rw [if_neg h1, frame_len, cat_two]
      have hr := H_range (n := l.length) (by omega)
      have e1 := rootL_len f (l.take (H l.length)) (fun x hm => hx x (List.mem_of_mem_take hm)) (by rw [List.length_take]; omega)
      have e2 := rootL_len f (l.drop (H l.length)) (fun x hm => hx x (List.mem_of_mem_drop hm)) (by rw [List.length_drop]; omega)
      rw [List.length_take] at e1
      rw [List.length_drop] at e2
      omega
theorem rootL_bytes : ∀ (f : Nat) (l : List (List Int)), (∀ x ∈ l, Bytes x) → Bytes (rootL f l)
  | 0, l, _ => by intro x hx; simp [rootL] at hx
  | f + 1, l, hx => by
    unfold rootL
    split
    · exact bytes_frame _ _ (by simp)
    · split
      · exact bytes_frame _ _ hx
      · refine bytes_frame _ _ (fun p hp => ?_)
        simp only [List.mem_cons, List.not_mem_nil, or_false] at hp
        rcases hp with rfl | rfl
        · exact rootL_bytes f _ (fun x hm => hx x (List.mem_of_mem_take hm))
        · exact rootL_bytes f _ (fun x hm => hx x (List.mem_of_mem_drop hm))
theorem rootL_small (f : Nat) (l : List (List Int)) (hx : ∀ x ∈ l, x.length ≤ 12) (hl : l.length ≤ 1000) : (rootL f l).length ≤ 40000 := by
  by_cases h : 1 ≤ l.length
  · have := rootL_len f l hx h; omega
  · cases f with
    | zero => simp [rootL]
    | succ f => unfold rootL; rw [if_pos (by omega), frame_len, cat_nil]; simp
theorem pair_ev (a b : List Int) (ha : a.length ≤ 1000000) (hb : b.length ≤ 1000000) : Ev (fun k => roll_pair.f k 2 a b) (frameL 6 [a, b], 0) := by
  simp only [roll_pair.f]
  exact Ev.bind (Digest_open 6 [a, b] (by decide) (by simp) (by rw [frame_len, cat_two]; omega)) (Ev.now _)
theorem root_ev : ∀ (f : Nat) (l : List (List Int)), l.length < f → l.length ≤ 1000 → (∀ x ∈ l, x.length ≤ 12) → Ev (fun k => roll_root.f k 2 l) (rootL f l, 0)
  | 0, _, h, _, _ => by omega
  | f + 1, l, h, hl, hx => by
    unfold rootL
    by_cases h0 : l.length = 0
    · rw [if_pos h0]
      refine Ev.step (f := fun k => (oracle_Digest.f k 2 4 ([] : List (List Int))).bind fun b => some (b.1, b.2)) (fun k => ?_) (Ev.bind (Digest_open 4 [] (by decide) (by simp) (by rw [frame_len, cat_nil]; simp)) (Ev.now _))
      simp only [roll_root.f]
      rw [if_pos (by omega)]
    · rw [if_neg h0]
      by_cases h1 : l.length = 1
      · rw [if_pos h1]
        obtain ⟨x, rfl⟩ := one_of h1
        have := hx x (by simp)
        refine Ev.step (f := fun k => (oracle_Digest.f k 2 5 [x]).bind fun b => some (b.1, b.2)) (fun k => ?_) (Ev.bind (Digest_open 5 [x] (by decide) (by simp) (by rw [frame_len, cat_one]; omega)) (Ev.now _))
        simp only [roll_root.f]
        rw [if_neg (by simp), if_pos (by simp), if_pos (by simp)]
        rfl
      · rw [if_neg h1]
        have hr := H_range (n := l.length) (by omega)
        have t1 : ∀ x ∈ l.take (H l.length), x.length ≤ 12 := fun x hm => hx x (List.mem_of_mem_take hm)
        have t2 : ∀ x ∈ l.drop (H l.length), x.length ≤ 12 := fun x hm => hx x (List.mem_of_mem_drop hm)
        have s1 : (l.take (H l.length)).length = H l.length := by rw [List.length_take]; omega
        have s2 : (l.drop (H l.length)).length = l.length - H l.length := by rw [List.length_drop]
        have e1 := root_ev f (l.take (H l.length)) (by omega) (by omega) t1
        have e2 := root_ev f (l.drop (H l.length)) (by omega) (by omega) t2
        have b1 := rootL_small f _ t1 (by omega)
        have b2 := rootL_small f _ t2 (by omega)
        refine Ev.step (f := fun k => (roll_half.f k (l.length : Int)).bind fun t161 => (if 0 ≤ t161 then (if t161 ≤ (l.length : Int) then ((roll_root.f k 2 (l.take (t161 : Int).toNat)).bind fun bt166 => (if bt166.2 = 0 then ((roll_root.f k 2 (l.drop (t161 : Int).toNat)).bind fun bt174 => (if bt174.2 = 0 then ((roll_pair.f k 2 bt166.1 bt174.1).bind fun bt178 => (some (bt178.1, bt178.2))) else (some (([] : List Int), bt174.2)))) else (some (([] : List Int), bt166.2)))) else (none)) else (none))) (fun k => ?_) ?_
        · simp only [roll_root.f]
          rw [if_neg (by omega), if_neg (by omega)]
        · refine Ev.bind (half_ev l.length (by omega)) ?_
          simp only [if_pos (show (0 : Int) ≤ ((H l.length : Nat) : Int) by omega), if_pos (show ((H l.length : Nat) : Int) ≤ (l.length : Int) by omega), Int.toNat_natCast]
          refine Ev.bind e1 ?_
          simp only [if_true]
          refine Ev.bind e2 ?_
          simp only [if_true]
          exact Ev.bind (pair_ev _ _ (by omega) (by omega)) (Ev.now _)
theorem rootL_inj : ∀ (f g : Nat) (a b : List (List Int)), a.length < f → b.length < g → a.length ≤ 1000 → b.length ≤ 1000 → (∀ x ∈ a, x.length ≤ 12) → (∀ x ∈ b, x.length ≤ 12) → rootL f a = rootL g b → a = b
  | 0, _, _, _, h, _, _, _, _, _, _ => by omega
  | _ + 1, 0, _, _, _, h, _, _, _, _, _ => by omega
  | f + 1, g + 1, a, b, ha, hb, la, lb, xa, xb, h => by
    have short : ∀ (l : List (List Int)), (∀ x ∈ l, x.length ≤ 12) → ∀ x ∈ l, x.length < 4294967296 := fun l hl x hx => by have := hl x hx; omega
    have two : ∀ (n : Nat) (l : List (List Int)) (k : Nat), l.length ≤ 1000 → (∀ x ∈ l, x.length ≤ 12) → ∀ x ∈ [rootL n (l.take k), rootL n (l.drop k)], x.length < 4294967296 := by
      intro n l k hl hx x hm
      simp only [List.mem_cons, List.not_mem_nil, or_false] at hm
      rcases hm with rfl | rfl
      · have := rootL_small n (l.take k) (fun x hm => hx x (List.mem_of_mem_take hm)) (by rw [List.length_take]; omega); omega
      · have := rootL_small n (l.drop k) (fun x hm => hx x (List.mem_of_mem_drop hm)) (by rw [List.length_drop]; omega); omega
    unfold rootL at h
    have go : ∀ {t u : Int} {p q : List (List Int)}, (1 ≤ t ∧ t ≤ 9) → (1 ≤ u ∧ u ≤ 9) → p.length ≤ 8 → q.length ≤ 8 → (∀ x ∈ p, x.length < 4294967296) → (∀ x ∈ q, x.length < 4294967296) → frameL t p = frameL u q → t = u ∧ p = q := fun ht hu hn hm hp hq e => frame_free ht hu hn hm hp hq (z := []) (z2 := []) (by rw [e])
    by_cases a0 : a.length = 0 <;> by_cases b0 : b.length = 0
    · rw [List.eq_nil_of_length_eq_zero a0, List.eq_nil_of_length_eq_zero b0]
    · rw [if_pos a0, if_neg b0] at h
      by_cases b1 : b.length = 1
      · rw [if_pos b1] at h
        exact absurd (go (by decide) (by decide) (by simp) (by omega) (by simp) (short b xb) h).1 (by decide)
      · rw [if_neg b1] at h
        exact absurd (go (by decide) (by decide) (by simp) (by simp) (by simp) (two g b _ lb xb) h).1 (by decide)
    · rw [if_neg a0, if_pos b0] at h
      by_cases a1 : a.length = 1
      · rw [if_pos a1] at h
        exact absurd (go (by decide) (by decide) (by omega) (by simp) (short a xa) (by simp) h).1 (by decide)
      · rw [if_neg a1] at h
        exact absurd (go (by decide) (by decide) (by simp) (by simp) (two f a _ la xa) (by simp) h).1 (by decide)
    · rw [if_neg a0, if_neg b0] at h
      by_cases a1 : a.length = 1 <;> by_cases b1 : b.length = 1
      · rw [if_pos a1, if_pos b1] at h
        exact (go (by decide) (by decide) (by omega) (by omega) (short a xa) (short b xb) h).2
      · rw [if_pos a1, if_neg b1] at h
        exact absurd (go (by decide) (by decide) (by omega) (by simp) (short a xa) (two g b _ lb xb) h).1 (by decide)
      · rw [if_neg a1, if_pos b1] at h
        exact absurd (go (by decide) (by decide) (by simp) (by omega) (two f a _ la xa) (short b xb) h).1 (by decide)
      · rw [if_neg a1, if_neg b1] at h
        have e := (go (by decide) (by decide) (by simp) (by simp) (two f a _ la xa) (two g b _ lb xb) h).2
        simp only [List.cons.injEq, and_true] at e
        have ra := H_range (n := a.length) (by omega)
        have rb := H_range (n := b.length) (by omega)
        have e1 := rootL_inj f g _ _ (by rw [List.length_take]; omega) (by rw [List.length_take]; omega) (by rw [List.length_take]; omega) (by rw [List.length_take]; omega) (fun x hm => xa x (List.mem_of_mem_take hm)) (fun x hm => xb x (List.mem_of_mem_take hm)) e.1
        have e2 := rootL_inj f g _ _ (by rw [List.length_drop]; omega) (by rw [List.length_drop]; omega) (by rw [List.length_drop]; omega) (by rw [List.length_drop]; omega) (fun x hm => xa x (List.mem_of_mem_drop hm)) (fun x hm => xb x (List.mem_of_mem_drop hm)) e.2
        rw [← List.take_append_drop (H a.length) a, ← List.take_append_drop (H b.length) b, e1, e2]

/-! ### a frame that is too long is none -/
theorem Frame_bad_loop (t : Int) (ps : List (List Int)) (hps : ps.length ≤ 8) (hl : 16777216 < (frameL t ps).length) (d : Nat) : ∀ (i : Nat) (all : Int), i + d = ps.length → all + (cat (ps.drop i)).length = (frameL t ps).length → 0 ≤ all → all ≤ 2 + 16777220 * i →
    Ev (fun k => oracle_Frame.l0 k t ps all ps (ps.length : Int) (i : Int)) ([], 1) := by
  induction d with
  | zero =>
    intro i all hi ha h0 h1
    rw [List.drop_of_length_le (by omega), cat_nil] at ha
    simp only [List.length_nil] at ha
    refine Ev.step (f := fun _ => some (([] : List Int), (1 : Int))) (fun k => ?_) (Ev.now _)
    simp only [oracle_Frame.l0]
    rw [if_neg (by omega), if_pos (by omega)]
  | succ d ih =>
    intro i all hi ha h0 h1
    have hlt : i < ps.length := by omega
    have hp := cat_part hlt
    have hw : wrap64 ((i : Int) + 1) = ((i + 1 : Nat) : Int) := by rw [w64 _ (by omega)]; omega
    by_cases hb : ps[i].length > 16777216
    · refine Ev.step (f := fun _ => some (([] : List Int), (1 : Int))) (fun k => ?_) (Ev.now _)
      simp only [oracle_Frame.l0]
      rw [if_pos (by omega), if_pos (by omega), if_pos (by omega), rdLL_at hlt, if_pos (by omega)]
    · refine Ev.step (f := fun k => oracle_Frame.l0 k t ps (all + (4 + (ps[i].length : Int))) ps (ps.length : Int) ((i + 1 : Nat) : Int)) (fun k => ?_) (ih (i + 1) (all + (4 + (ps[i].length : Int))) (by omega) (by omega) (by omega) (by omega))
      simp only [oracle_Frame.l0]
      rw [if_pos (by omega), if_pos (by omega), if_pos (by omega), rdLL_at hlt, if_neg (by omega), hw, w64 (4 + _) (by omega), w64 (all + _) (by omega)]
theorem Frame_bad (t : Int) (ps : List (List Int)) (ht : 1 ≤ t ∧ t ≤ 9) (hps : ps.length ≤ 8) (hl : 16777216 < (frameL t ps).length) : Ev (fun k => oracle_Frame.f k t ps) ([], 1) := by
  have h := Frame_bad_loop t ps hps hl ps.length 0 2 (by omega) (by simp [frameL]; omega) (by omega) (by omega)
  refine Ev.congr (f := fun k => oracle_Frame.j0 k t ps false) (fun k => ?_) ?_
  · simp only [oracle_Frame.f]
    rw [if_neg (by omega), decide_eq_false (by omega)]
  · refine Ev.step (f := fun k => oracle_Frame.l0 k t ps 2 ps (ps.length : Int) 0) (fun k => ?_) h
    simp only [oracle_Frame.j0]
    rw [if_neg (by simp), if_neg (by omega)]
theorem Digest_bad (t : Int) (ps : List (List Int)) (ht : 1 ≤ t ∧ t ≤ 9) (hps : ps.length ≤ 8) (hl : 16777216 < (frameL t ps).length) : Ev (fun k => oracle_Digest.f k 2 t ps) ([], 1) := by
  refine Ev.congr (f := fun k => oracle_Digest.j0 k 2 t ps false) (fun k => ?_) ?_
  · simp only [oracle_Digest.f]
    rw [if_neg (by decide)]
    rfl
  · refine Ev.step (f := fun k => (oracle_Frame.f k t ps).bind fun b => if b.2 = 0 then (if (2 : Int) = 2 then some (b.1, b.2) else none) else some (b.1, b.2)) (fun k => ?_) (Ev.bind (Frame_bad t ps ht hps hl) (Ev.now _))
    simp only [oracle_Digest.j0]
    rw [if_neg (by simp)]

/-! ### the root, without a measure -/
theorem rootL_fuel : ∀ (f g : Nat) (l : List (List Int)), l.length < f → l.length < g → rootL f l = rootL g l
  | 0, _, _, h, _ => by omega
  | _ + 1, 0, _, _, h => by omega
  | f + 1, g + 1, l, h1, h2 => by
    unfold rootL
    by_cases h0 : l.length = 0
    · rw [if_pos h0, if_pos h0]
    · by_cases h3 : l.length = 1
      · rw [if_neg h0, if_neg h0, if_pos h3, if_pos h3]
      · have hr := H_range (n := l.length) (by omega)
        rw [if_neg h0, if_neg h0, if_neg h3, if_neg h3, rootL_fuel f g (l.take (H l.length)) (by rw [List.length_take]; omega) (by rw [List.length_take]; omega), rootL_fuel f g (l.drop (H l.length)) (by rw [List.length_drop]; omega) (by rw [List.length_drop]; omega)]
def R (l : List (List Int)) : List Int := rootL (l.length + 1) l
theorem R_one (x : List Int) : R [x] = frameL 5 [x] := by
  unfold R rootL
  rw [if_neg (by simp), if_pos (by simp)]
theorem R_two {l : List (List Int)} (h : 2 ≤ l.length) : R l = frameL 6 [R (l.take (H l.length)), R (l.drop (H l.length))] := by
  have hr := H_range h
  unfold R
  rw [rootL_fuel ((l.take (H l.length)).length + 1) l.length _ (by omega) (by rw [List.length_take]; omega), rootL_fuel ((l.drop (H l.length)).length + 1) l.length _ (by omega) (by rw [List.length_drop]; omega)]
  conv => lhs; unfold rootL
  rw [if_neg (by omega), if_neg (by omega)]
def Short (l : List (List Int)) : Prop := l.length ≤ 1000 ∧ ∀ x ∈ l, x.length ≤ 12 ∧ Bytes x
theorem Short.take {l : List (List Int)} (h : Short l) (n : Nat) : Short (l.take n) := ⟨by rw [List.length_take]; have := h.1; omega, fun x hm => h.2 x (List.mem_of_mem_take hm)⟩
theorem Short.drop {l : List (List Int)} (h : Short l) (n : Nat) : Short (l.drop n) := ⟨by rw [List.length_drop]; have := h.1; omega, fun x hm => h.2 x (List.mem_of_mem_drop hm)⟩
theorem R_ev {l : List (List Int)} (h : Short l) : Ev (fun k => roll_root.f k 2 l) (R l, 0) := root_ev (l.length + 1) l (by omega) h.1 (fun x hx => (h.2 x hx).1)
theorem R_small {l : List (List Int)} (h : Short l) : (R l).length ≤ 40000 := rootL_small _ l (fun x hx => (h.2 x hx).1) h.1
theorem R_bytes {l : List (List Int)} (h : Short l) : Bytes (R l) := rootL_bytes _ l (fun x hx => (h.2 x hx).2)
theorem R_inj {a b : List (List Int)} (ha : Short a) (hb : Short b) (h : R a = R b) : a = b := rootL_inj _ _ a b (by omega) (by omega) ha.1 hb.1 (fun x hx => (ha.2 x hx).1) (fun x hx => (hb.2 x hx).1) h
theorem R_pos (l : List (List Int)) : 2 ≤ (R l).length := by
  unfold R rootL
  split
  · rw [frame_len]; omega
  · split <;> (rw [frame_len]; omega)
theorem pair_any (a b : List Int) : ∃ d e, Ev (fun k => roll_pair.f k 2 a b) (d, e) ∧ (e = 0 → d = frameL 6 [a, b] ∧ (frameL 6 [a, b]).length ≤ 16777216) := by
  by_cases h : (frameL 6 [a, b]).length ≤ 16777216
  · refine ⟨frameL 6 [a, b], 0, ?_, fun _ => ⟨rfl, h⟩⟩
    simp only [roll_pair.f]
    exact Ev.bind (Digest_open 6 [a, b] (by decide) (by simp) h) (Ev.now _)
  · refine ⟨[], 1, ?_, fun h => absurd h (by decide)⟩
    simp only [roll_pair.f]
    exact Ev.bind (Digest_bad 6 [a, b] (by decide) (by simp) (by omega)) (Ev.now _)
theorem pair_good (a b : List Int) (ha : a.length ≤ 1000000) (hb : b.length ≤ 1000000) : Ev (fun k => roll_pair.f k 2 a b) (frameL 6 [a, b], 0) := pair_ev a b ha hb
theorem bytes_two {a b : List Int} (t : Int) (ha : Bytes a) (hb : Bytes b) : Bytes (frameL t [a, b]) := bytes_frame _ _ (fun p hp => by
  simp only [List.mem_cons, List.not_mem_nil, or_false] at hp
  rcases hp with rfl | rfl
  · exact ha
  · exact hb)
theorem pair_inj {a b c d : List Int} (ha : a.length ≤ 16777216) (hb : b.length ≤ 16777216) (hc : c.length ≤ 16777216) (hd : d.length ≤ 16777216) (h : frameL 6 [a, b] = frameL 6 [c, d]) : a = c ∧ b = d := by
  have two : ∀ u v : List Int, u.length ≤ 16777216 → v.length ≤ 16777216 → ∀ x ∈ [u, v], x.length < 4294967296 := by
    intro u v hu hv x hx
    simp only [List.mem_cons, List.not_mem_nil, or_false] at hx
    rcases hx with rfl | rfl <;> omega
  have e := (frame_free (t := 6) (u := 6) (p := [a, b]) (q := [c, d]) (by decide) (by decide) (by simp) (by simp) (two a b ha hb) (two c d hc hd) (z := []) (z2 := []) (by rw [h])).2
  simpa using e

theorem u8_of {l : List Int} (h : ∀ x ∈ l, (Lit.int .u8 x).wf = true) : Bytes l := by
  intro x hx
  have := h x hx
  simp [Lit.wf, IntKind.min, IntKind.max, IntKind.signed, IntKind.bits] at this
  omega
/-! ### the greatest power of two below -/
theorem hh_spec : ∀ (f n k : Nat), n ≤ k + f → (∃ j, k = 2 ^ j) → 1 ≤ k → k < n → (∃ j, hh f n k = 2 ^ j) ∧ hh f n k < n ∧ n ≤ 2 * hh f n k
  | 0, n, k, h, _, _, h3 => by omega
  | f + 1, n, k, h, ⟨j, hj⟩, h1, h3 => by
    unfold hh
    by_cases hc : 2 * k < n
    · rw [if_pos hc]
      exact hh_spec f n (2 * k) (by omega) ⟨j + 1, by rw [hj, Nat.pow_succ, Nat.mul_comm]⟩ (by omega) hc
    · rw [if_neg hc]
      exact ⟨⟨j, hj⟩, h3, by omega⟩
theorem H_spec {n : Nat} (h : 2 ≤ n) : (∃ j, H n = 2 ^ j) ∧ H n < n ∧ n ≤ 2 * H n := hh_spec n n 1 (by omega) ⟨0, rfl⟩ (by omega) (by omega)
theorem H_same {m n : Nat} (h : 2 ≤ n) (h1 : H n < m) (h2 : m ≤ n) : H m = H n := by
  obtain ⟨⟨i, hi⟩, a1, a2⟩ := H_spec h
  have h3 := H_range h
  obtain ⟨⟨j, hj⟩, b1, b2⟩ := H_spec (n := m) (by omega)
  rcases Nat.lt_trichotomy i j with hij | hij | hij
  · have : 2 ^ (i + 1) ≤ 2 ^ j := Nat.pow_le_pow_right (by omega) hij
    rw [Nat.pow_succ] at this
    omega
  · rw [hi, hj, hij]
  · have : 2 ^ (j + 1) ≤ 2 ^ i := Nat.pow_le_pow_right (by omega) hij
    rw [Nat.pow_succ] at this
    omega
theorem R_take {l : List (List Int)} {m : Nat} (h1 : H l.length < m) (h2 : m ≤ l.length) (h : 2 ≤ l.length) : R (l.take m) = frameL 6 [R (l.take (H l.length)), R ((l.drop (H l.length)).take (m - H l.length))] := by
  have hl : (l.take m).length = m := by rw [List.length_take]; omega
  have hr := H_range h
  rw [R_two (l := l.take m) (by omega), hl, H_same h h1 h2, List.take_take, List.drop_take, Nat.min_eq_left (by omega)]
/-! ### the proof that is made -/
def extP : Nat → List (List Int) → Nat → Bool → List (List Int)
  | 0, _, _, _ => []
  | f + 1, l, m, kn => if m = l.length then (if kn = true then [] else [R l]) else if H l.length < m then extP f (l.drop (H l.length)) (m - H l.length) false ++ [R (l.take (H l.length))] else extP f (l.take (H l.length)) m kn ++ [R (l.drop (H l.length))]
theorem extP_len : ∀ (f : Nat) (l : List (List Int)) (m : Nat) (kn : Bool), (extP f l m kn).length ≤ f
  | 0, _, _, _ => by simp [extP]
  | f + 1, l, m, kn => by
    unfold extP
    split
    · split <;> simp
    · split
      · have := extP_len f (l.drop (H l.length)) (m - H l.length) false; simp; omega
      · have := extP_len f (l.take (H l.length)) m kn; simp; omega
theorem extP_bytes : ∀ (f : Nat) (l : List (List Int)) (m : Nat) (kn : Bool), Short l → ∀ p ∈ extP f l m kn, Bytes p
  | 0, _, _, _, _, p, hp => by simp [extP] at hp
  | f + 1, l, m, kn, hs, p, hp => by
    unfold extP at hp
    split at hp
    · split at hp
      · simp at hp
      · simp only [List.mem_singleton] at hp
        subst hp
        exact R_bytes hs
    · split at hp
      · rcases List.mem_append.1 hp with h | h
        · exact extP_bytes f _ _ _ (hs.drop _) p h
        · simp only [List.mem_singleton] at h
          subst h
          exact R_bytes (hs.take _)
      · rcases List.mem_append.1 hp with h | h
        · exact extP_bytes f _ _ _ (hs.take _) p h
        · simp only [List.mem_singleton] at h
          subst h
          exact R_bytes (hs.drop _)
theorem ext_j0 {i : Int} {kn : Bool} {a b p : List (List Int)} {d : List Int} (h : Ev (fun k => roll_extend.f k 2 a i kn) (p, 0)) (hd : Ev (fun k => roll_root.f k 2 b) (d, 0)) (hp : p.length < 5864062014805) : Ev (fun k => roll_extend.j0 k 2 i kn a b) (p ++ [d], 0) := by
  refine Ev.step (f := fun k => (roll_extend.f k 2 a i kn).bind fun bt207 => (if bt207.2 = 0 then ((roll_root.f k 2 b).bind fun bt211 => (if bt211.2 = 0 then (if bt207.1.length < 5864062014805 then (some ((bt207.1 ++ [bt211.1]), 0)) else (none)) else (some (([] : List (List Int)), bt211.2)))) else (some (([] : List (List Int)), bt207.2)))) (fun k => by simp only [roll_extend.j0]) ?_
  refine Ev.bind h ?_
  simp only [if_true]
  refine Ev.bind hd ?_
  simp only [if_true, if_pos hp]
  exact Ev.now _
theorem extend_ev : ∀ (f : Nat) (l : List (List Int)) (m : Nat) (kn : Bool), l.length ≤ f → f ≤ 1000 → 1 ≤ m → m ≤ l.length → Short l → Ev (fun k => roll_extend.f k 2 l (m : Int) kn) (extP f l m kn, 0)
  | 0, l, m, kn, h, _, h1, h2, _ => by omega
  | f + 1, l, m, kn, h, hf, h1, h2, hs => by
    unfold extP
    by_cases he : m = l.length
    · rw [if_pos he]
      cases kn with
      | true =>
        rw [if_pos rfl]
        refine Ev.step (f := fun _ => some (([] : List (List Int)), (0 : Int))) (fun k => ?_) (Ev.now _)
        simp only [roll_extend.f]
        rw [if_pos (by omega), if_pos trivial]
      | false =>
        rw [if_neg (by simp)]
        refine Ev.step (f := fun k => (roll_root.f k 2 l).bind fun bt189 => (some ((([bt189.1] : List (List Int))), bt189.2))) (fun k => ?_) (Ev.bind (R_ev hs) (Ev.now _))
        simp only [roll_extend.f]
        rw [if_pos (by omega), if_neg (by simp)]
    · rw [if_neg he]
      have hr := H_range (n := l.length) (by omega)
      have t1 : (l.take (H l.length)).length = H l.length := by rw [List.length_take]; omega
      have t2 : (l.drop (H l.length)).length = l.length - H l.length := by rw [List.length_drop]
      refine Ev.step (f := fun k => (roll_half.f k (l.length : Int)).bind fun t196 => (if 0 ≤ t196 then (if t196 ≤ (l.length : Int) then ((some (l.take (t196 : Int).toNat : List (List Int))).bind fun y197 => ((some (l.drop (t196 : Int).toNat : List (List Int))).bind fun y202 => (if (m : Int) > t196 then (roll_extend.j0 k 2 (wrap64 ((m : Int) - t196)) false y202 y197) else (roll_extend.j0 k 2 (m : Int) kn y197 y202)))) else (none)) else (none))) (fun k => ?_) ?_
      · simp only [roll_extend.f]
        rw [if_neg (by omega)]
      refine Ev.bind (half_ev l.length (by omega)) ?_
      simp only [if_pos (show (0 : Int) ≤ ((H l.length : Nat) : Int) by omega), if_pos (show ((H l.length : Nat) : Int) ≤ (l.length : Int) by omega), Int.toNat_natCast, Option.bind_some]
      by_cases hk : H l.length < m
      · rw [if_pos hk]
        simp only [if_pos (show (m : Int) > ((H l.length : Nat) : Int) by omega)]
        rw [w64 _ (by omega), show (m : Int) - ((H l.length : Nat) : Int) = ((m - H l.length : Nat) : Int) by omega]
        have := extP_len f (l.drop (H l.length)) (m - H l.length) false
        exact ext_j0 (extend_ev f _ _ _ (by omega) (by omega) (by omega) (by omega) (hs.drop _)) (R_ev (hs.take _)) (by omega)
      · rw [if_neg hk]
        simp only [if_neg (show ¬ (m : Int) > ((H l.length : Nat) : Int) by omega)]
        have := extP_len f (l.take (H l.length)) m kn
        exact ext_j0 (extend_ev f _ _ _ (by omega) (by omega) (by omega) (by omega) (hs.take _)) (R_ev (hs.drop _)) (by omega)
/-! ### a proof looked at -/
theorem roots_le {m n q : Nat} {old : List Int} {kn : Bool} {path : List (List Int)} (hn : 2 ≤ n) (hn2 : n ≤ 1000) (hmn : m < n) (hq : path.length = q + 1) (hq2 : q < 1000000000000000) (hi : m ≤ H n) {w i : List Int} {ok : Bool} {r : List Int × List Int × Bool}
    (h : Ev (fun k => roll_extension_roots.f k 2 old (m : Int) ((H n : Nat) : Int) kn (path.take q)) (w, i, ok)) (h0 : ok = false → r = ([], [], false)) (h1 : ok = true → ∃ c x, Ev (fun k => roll_pair.f k 2 i (path[q]'(by omega))) (c, x) ∧ r = (w, c, x == 0)) : Ev (fun k => roll_extension_roots.f k 2 old (m : Int) (n : Int) kn path) r := by
  have hw : wrap64 ((path.length : Int) - 1) = (q : Int) := by rw [hq, w64 _ (by omega)]; omega
  have hr := H_range hn
  refine Ev.step (f := fun k => (roll_half.f k (n : Int)).bind fun t230 => (if (m : Int) ≤ t230 then (if 0 ≤ (wrap64 ((path.length : Int) - 1)) then (if (wrap64 ((path.length : Int) - 1)) ≤ (path.length : Int) then ((roll_extension_roots.f k 2 old (m : Int) t230 kn (path.take ((wrap64 ((path.length : Int) - 1)) : Int).toNat)).bind fun bt236 => (if bt236.2.2 = true then (if (wrap64 ((path.length : Int) - 1)) < (path.length : Int) then ((roll_pair.f k 2 bt236.2.1 (rd_L4 path (wrap64 ((path.length : Int) - 1)))).bind fun bt244 => (some (bt236.1, bt244.1, (bt244.2 == 0)))) else (none)) else (some (([] : List Int), ([] : List Int), false)))) else (none)) else (none)) else (if 0 ≤ (wrap64 ((path.length : Int) - 1)) then (if (wrap64 ((path.length : Int) - 1)) ≤ (path.length : Int) then ((roll_extension_roots.f k 2 old (wrap64 ((m : Int) - t230)) (wrap64 ((n : Int) - t230)) false (path.take ((wrap64 ((path.length : Int) - 1)) : Int).toNat)).bind fun bt253 => (if bt253.2.2 = true then (if (wrap64 ((path.length : Int) - 1)) < (path.length : Int) then ((roll_pair.f k 2 (rd_L4 path (wrap64 ((path.length : Int) - 1))) bt253.1).bind fun bt261 => ((roll_pair.f k 2 (rd_L4 path (wrap64 ((path.length : Int) - 1))) bt253.2.1).bind fun bt266 => (if bt261.2 = 0 then (some (bt261.1, bt266.1, (bt266.2 == 0))) else (some (bt261.1, bt266.1, false))))) else (none)) else (some (([] : List Int), ([] : List Int), false)))) else (none)) else (none)))) (fun k => ?_) ?_
  · simp only [roll_extension_roots.f]
    rw [if_neg (by omega), if_neg (by omega)]
  · refine Ev.bind (half_ev n (by omega)) ?_
    simp only [if_pos (show (m : Int) ≤ ((H n : Nat) : Int) by omega), hw, if_pos (show (0 : Int) ≤ (q : Int) by omega), if_pos (show (q : Int) ≤ (path.length : Int) by omega), if_pos (show (q : Int) < (path.length : Int) by omega), Int.toNat_natCast, rdLL_at (show q < path.length by omega)]
    refine Ev.bind h ?_
    cases ok with
    | false => rw [h0 rfl]; simp only [Bool.false_eq_true, if_false]; exact Ev.now _
    | true =>
      obtain ⟨c, x, hp, rfl⟩ := h1 rfl
      simp only [if_true]
      exact Ev.bind hp (Ev.now _)
theorem roots_gt {m n q : Nat} {old : List Int} {kn : Bool} {path : List (List Int)} (hn : 2 ≤ n) (hn2 : n ≤ 1000) (hmn : m < n) (hq : path.length = q + 1) (hq2 : q < 1000000000000000) (hi : H n < m) {w i : List Int} {ok : Bool} {r : List Int × List Int × Bool}
    (h : Ev (fun k => roll_extension_roots.f k 2 old ((m - H n : Nat) : Int) ((n - H n : Nat) : Int) false (path.take q)) (w, i, ok)) (h0 : ok = false → r = ([], [], false)) (h1 : ok = true → ∃ a x b y, Ev (fun k => roll_pair.f k 2 (path[q]'(by omega)) w) (a, x) ∧ Ev (fun k => roll_pair.f k 2 (path[q]'(by omega)) i) (b, y) ∧ r = (a, b, if x = 0 then (y == 0) else false)) : Ev (fun k => roll_extension_roots.f k 2 old (m : Int) (n : Int) kn path) r := by
  have hw : wrap64 ((path.length : Int) - 1) = (q : Int) := by rw [hq, w64 _ (by omega)]; omega
  have hr := H_range hn
  refine Ev.step (f := fun k => (roll_half.f k (n : Int)).bind fun t230 => (if (m : Int) ≤ t230 then (if 0 ≤ (wrap64 ((path.length : Int) - 1)) then (if (wrap64 ((path.length : Int) - 1)) ≤ (path.length : Int) then ((roll_extension_roots.f k 2 old (m : Int) t230 kn (path.take ((wrap64 ((path.length : Int) - 1)) : Int).toNat)).bind fun bt236 => (if bt236.2.2 = true then (if (wrap64 ((path.length : Int) - 1)) < (path.length : Int) then ((roll_pair.f k 2 bt236.2.1 (rd_L4 path (wrap64 ((path.length : Int) - 1)))).bind fun bt244 => (some (bt236.1, bt244.1, (bt244.2 == 0)))) else (none)) else (some (([] : List Int), ([] : List Int), false)))) else (none)) else (none)) else (if 0 ≤ (wrap64 ((path.length : Int) - 1)) then (if (wrap64 ((path.length : Int) - 1)) ≤ (path.length : Int) then ((roll_extension_roots.f k 2 old (wrap64 ((m : Int) - t230)) (wrap64 ((n : Int) - t230)) false (path.take ((wrap64 ((path.length : Int) - 1)) : Int).toNat)).bind fun bt253 => (if bt253.2.2 = true then (if (wrap64 ((path.length : Int) - 1)) < (path.length : Int) then ((roll_pair.f k 2 (rd_L4 path (wrap64 ((path.length : Int) - 1))) bt253.1).bind fun bt261 => ((roll_pair.f k 2 (rd_L4 path (wrap64 ((path.length : Int) - 1))) bt253.2.1).bind fun bt266 => (if bt261.2 = 0 then (some (bt261.1, bt266.1, (bt266.2 == 0))) else (some (bt261.1, bt266.1, false))))) else (none)) else (some (([] : List Int), ([] : List Int), false)))) else (none)) else (none)))) (fun k => ?_) ?_
  · simp only [roll_extension_roots.f]
    rw [if_neg (by omega), if_neg (by omega)]
  · refine Ev.bind (half_ev n (by omega)) ?_
    simp only [if_neg (show ¬ (m : Int) ≤ ((H n : Nat) : Int) by omega), hw, if_pos (show (0 : Int) ≤ (q : Int) by omega), if_pos (show (q : Int) ≤ (path.length : Int) by omega), if_pos (show (q : Int) < (path.length : Int) by omega), Int.toNat_natCast, rdLL_at (show q < path.length by omega), show wrap64 ((n : Int) - ((H n : Nat) : Int)) = ((n - H n : Nat) : Int) by rw [w64 _ (by omega)]; omega, show wrap64 ((m : Int) - ((H n : Nat) : Int)) = ((m - H n : Nat) : Int) by rw [w64 _ (by omega)]; omega]
    refine Ev.bind h ?_
    cases ok with
    | false => rw [h0 rfl]; simp only [Bool.false_eq_true, if_false]; exact Ev.now _
    | true =>
      obtain ⟨a, x, b, y, hp, hp2, rfl⟩ := h1 rfl
      simp only [if_true]
      refine Ev.bind hp (Ev.bind hp2 ?_)
      by_cases hx : x = 0
      · simp only [if_pos hx]; exact Ev.now _
      · simp only [if_neg hx]; exact Ev.now _
theorem roots_known {n : Nat} {old : List Int} {path : List (List Int)} : Ev (fun k => roll_extension_roots.f k 2 old (n : Int) (n : Int) true path) (old, old, ((path.length : Int) == 0)) := by
  refine Ev.step (f := fun _ => some (old, old, ((path.length : Int) == 0))) (fun k => ?_) (Ev.now _)
  simp only [roll_extension_roots.f, if_true]
theorem roots_one {n : Nat} {old p : List Int} : Ev (fun k => roll_extension_roots.f k 2 old (n : Int) (n : Int) false [p]) (p, p, true) := by
  refine Ev.step (f := fun _ => some (p, p, true)) (fun k => ?_) (Ev.now _)
  simp only [roll_extension_roots.f, if_true]
  rw [if_neg (by simp), if_pos (by simp), if_pos (by simp)]
  rfl
theorem roots_other {n : Nat} {old : List Int} {path : List (List Int)} (h : path.length ≠ 1) : Ev (fun k => roll_extension_roots.f k 2 old (n : Int) (n : Int) false path) ([], [], false) := by
  refine Ev.step (f := fun _ => some (([] : List Int), ([] : List Int), false)) (fun k => ?_) (Ev.now _)
  simp only [roll_extension_roots.f, if_true]
  rw [if_neg (by simp), if_neg (by omega)]
theorem roots_nil {m n : Nat} {old : List Int} {kn : Bool} (h : m < n) : Ev (fun k => roll_extension_roots.f k 2 old (m : Int) (n : Int) kn []) ([], [], false) := by
  refine Ev.step (f := fun _ => some (([] : List Int), ([] : List Int), false)) (fun k => ?_) (Ev.now _)
  simp only [roll_extension_roots.f]
  rw [if_neg (by omega), if_pos (by simp)]
theorem roots_sound : ∀ (f m n : Nat) (old : List Int) (kn : Bool) (path : List (List Int)), 1 ≤ m → m ≤ n → n ≤ f → f ≤ 1000 → Bytes old → old.length ≤ 16777216 → (∀ p ∈ path, Bytes p) → path.length < 1000000000000000 → ∃ w i ok, Ev (fun k => roll_extension_roots.f k 2 old (m : Int) (n : Int) kn path) (w, i, ok) ∧
    (ok = true → Bytes w ∧ Bytes i ∧ ∀ l : List (List Int), l.length = n → Short l → i = R l → w = R (l.take m))
  | 0, m, n, old, kn, path, h1, h2, h3, _, _, _, _, _ => by omega
  | f + 1, m, n, old, kn, path, h1, h2, h3, hf, ho, hol, hp, hl => by
    by_cases hmn : m = n
    · subst hmn
      cases kn with
      | true => exact ⟨old, old, _, roots_known, fun _ => ⟨ho, ho, fun l hl hs h => by rw [h, List.take_of_length_le (by omega)]⟩⟩
      | false =>
        by_cases hq : path.length = 1
        · obtain ⟨p, rfl⟩ := one_of hq
          exact ⟨p, p, true, roots_one, fun _ => ⟨hp p (by simp), hp p (by simp), fun l hl hs h => by rw [h, List.take_of_length_le (by omega)]⟩⟩
        · exact ⟨[], [], false, roots_other hq, fun h => by simp at h⟩
    · rcases Nat.eq_zero_or_pos path.length with h0 | h0
      · rw [List.eq_nil_of_length_eq_zero h0]
        exact ⟨[], [], false, roots_nil (by omega), fun h => by simp at h⟩
      · obtain ⟨q, hq⟩ : ∃ q, path.length = q + 1 := ⟨path.length - 1, by omega⟩
        have hr := H_range (n := n) (by omega)
        have hpm : Bytes (path[q]'(by omega)) := hp _ (List.getElem_mem _)
        have hpt : ∀ p ∈ path.take q, Bytes p := fun p hq => hp p (List.mem_of_mem_take hq)
        have hlt : (path.take q).length < 1000000000000000 := by rw [List.length_take]; omega
        by_cases hk : m ≤ H n
        · obtain ⟨w, i, ok, hev, hs⟩ := roots_sound f m (H n) old kn (path.take q) h1 hk (by omega) (by omega) ho hol hpt hlt
          cases ok with
          | false => exact ⟨[], [], false, roots_le (by omega) (by omega) (by omega) hq (by omega) hk hev (fun _ => rfl) (fun h => by simp at h), fun h => by simp at h⟩
          | true =>
            obtain ⟨c, x, hc, hx⟩ := pair_any i (path[q]'(by omega))
            refine ⟨w, c, x == 0, roots_le (by omega) (by omega) (by omega) hq (by omega) hk hev (fun h => by simp at h) (fun _ => ⟨c, x, hc, rfl⟩), fun hok => ?_⟩
            obtain ⟨rfl, hsz⟩ := hx (by simpa using hok)
            obtain ⟨b1, b2, b3⟩ := hs rfl
            refine ⟨b1, bytes_two 6 b2 hpm, fun l hn hsh hR => ?_⟩
            subst hn
            rw [R_two (l := l) (by omega)] at hR
            have s1 := R_small (hsh.take (H l.length))
            have s2 := R_small (hsh.drop (H l.length))
            rw [frame_len, cat_two] at hsz
            have e2 := (pair_inj (by omega) (by omega) (by omega) (by omega) hR).1
            have h3 := b3 (l.take (H l.length)) (by rw [List.length_take]; omega) (hsh.take _) e2
            rw [h3, List.take_take, Nat.min_eq_left hk]
        · obtain ⟨w, i, ok, hev, hs⟩ := roots_sound f (m - H n) (n - H n) old false (path.take q) (by omega) (by omega) (by omega) (by omega) ho hol hpt hlt
          cases ok with
          | false => exact ⟨[], [], false, roots_gt (by omega) (by omega) (by omega) hq (by omega) (by omega) hev (fun _ => rfl) (fun h => by simp at h), fun h => by simp at h⟩
          | true =>
            obtain ⟨a, x, ha, hax⟩ := pair_any (path[q]'(by omega)) w
            obtain ⟨b, y, hb, hby⟩ := pair_any (path[q]'(by omega)) i
            refine ⟨a, b, _, roots_gt (by omega) (by omega) (by omega) hq (by omega) (by omega) hev (fun h => by simp at h) (fun _ => ⟨a, x, b, y, ha, hb, rfl⟩), fun hok => ?_⟩
            have hx0 : x = 0 := by
              by_cases hx : x = 0
              · exact hx
              · rw [if_neg hx] at hok; simp at hok
            rw [if_pos hx0] at hok
            obtain ⟨rfl, hsa⟩ := hax hx0
            obtain ⟨rfl, hsb⟩ := hby (by simpa using hok)
            obtain ⟨b1, b2, b3⟩ := hs rfl
            refine ⟨bytes_two 6 hpm b1, bytes_two 6 hpm b2, fun l hn hsh hR => ?_⟩
            subst hn
            rw [R_two (l := l) (by omega)] at hR
            have s1 := R_small (hsh.take (H l.length))
            have s2 := R_small (hsh.drop (H l.length))
            rw [frame_len, cat_two] at hsb
            have e2 := pair_inj (by omega) (by omega) (by omega) (by omega) hR
            have h3 := b3 (l.drop (H l.length)) (by rw [List.length_drop]) (hsh.drop _) e2.2
            rw [R_take (by omega) h2 (by omega), e2.1, h3]
theorem roots_good : ∀ (f : Nat) (l : List (List Int)) (m : Nat) (kn : Bool) (old : List Int), l.length ≤ f → f ≤ 1000 → 1 ≤ m → m ≤ l.length → Short l → (kn = true → old = R (l.take m)) → Ev (fun k => roll_extension_roots.f k 2 old (m : Int) (l.length : Int) kn (extP f l m kn)) (R (l.take m), R l, true)
  | 0, l, m, kn, old, h, _, h1, h2, _, _ => by omega
  | f + 1, l, m, kn, old, h, hf, h1, h2, hs, ho => by
    unfold extP
    by_cases he : m = l.length
    · subst he
      rw [if_pos rfl]
      rw [List.take_of_length_le (Nat.le_refl _)] at ho ⊢
      cases kn with
      | true =>
        rw [if_pos rfl, ← ho rfl]
        exact roots_known
      | false =>
        rw [if_neg (by simp)]
        exact roots_one
    · rw [if_neg he]
      have hr := H_range (n := l.length) (by omega)
      have t1 : (l.take (H l.length)).length = H l.length := by rw [List.length_take]; omega
      have t2 : (l.drop (H l.length)).length = l.length - H l.length := by rw [List.length_drop]
      have s1 := R_small (hs.take (H l.length))
      have s2 := R_small (hs.drop (H l.length))
      rw [R_two (l := l) (by omega)]
      by_cases hk : H l.length < m
      · rw [if_pos hk, R_take hk h2 (by omega)]
        have hl := extP_len f (l.drop (H l.length)) (m - H l.length) false
        have ih := roots_good f (l.drop (H l.length)) (m - H l.length) false old (by omega) (by omega) (by omega) (by omega) (hs.drop _) (fun h => by simp at h)
        rw [t2] at ih
        have s3 := R_small ((hs.drop (H l.length)).take (m - H l.length))
        refine roots_gt (q := (extP f (l.drop (H l.length)) (m - H l.length) false).length) (by omega) (by omega) (by omega) (by simp) (by omega) hk (w := R ((l.drop (H l.length)).take (m - H l.length))) (i := R (l.drop (H l.length))) (ok := true) ?_ (fun h => by simp at h) (fun _ => ⟨_, 0, _, 0, ?_, ?_, rfl⟩)
        · rw [List.take_left]; exact ih
        · simp only [List.getElem_append_right (Nat.le_refl _), Nat.sub_self, List.getElem_cons_zero]
          exact pair_good (R (l.take (H l.length))) (R ((l.drop (H l.length)).take (m - H l.length))) (by omega) (by omega)
        · simp only [List.getElem_append_right (Nat.le_refl _), Nat.sub_self, List.getElem_cons_zero]
          exact pair_good (R (l.take (H l.length))) (R (l.drop (H l.length))) (by omega) (by omega)
      · rw [if_neg hk]
        have hl := extP_len f (l.take (H l.length)) m kn
        have htt : (l.take (H l.length)).take m = l.take m := by rw [List.take_take, Nat.min_eq_left (by omega)]
        have ih := roots_good f (l.take (H l.length)) m kn old (by omega) (by omega) h1 (by omega) (hs.take _) (by rw [htt]; exact ho)
        rw [t1, htt] at ih
        refine roots_le (q := (extP f (l.take (H l.length)) m kn).length) (by omega) (by omega) (by omega) (by simp) (by omega) (by omega) (w := R (l.take m)) (i := R (l.take (H l.length))) (ok := true) ?_ (fun h => by simp at h) (fun _ => ⟨_, 0, ?_, rfl⟩)
        · rw [List.take_left]; exact ih
        · simp only [List.getElem_append_right (Nat.le_refl _), Nat.sub_self, List.getElem_cons_zero]
          exact pair_good (R (l.take (H l.length))) (R (l.drop (H l.length))) (by omega) (by omega)
theorem R_nil : R [] = frameL 4 [] := rfl
theorem check_pre {old top : List Int} {m n : Nat} {path : List (List Int)} (hn : n ≤ 64) (hmn : m ≤ n) {c : Int} (h : Ev (fun k => roll_CheckExtend.j1 k 2 old (m : Int) top (n : Int) path false) c) : Ev (fun k => roll_CheckExtend.f k 2 old (m : Int) top (n : Int) path) c := by
  refine Ev.congr (f := fun k => roll_CheckExtend.j0 k 2 old (m : Int) top (n : Int) path false) (fun k => ?_) ?_
  · simp only [roll_CheckExtend.f, roll_modes.f]
    simp only [if_neg (show ¬ (2 : Int) = 1 by decide), Option.bind_some, if_pos (show ((2 : Int) == 2) = true by decide), if_neg (show ¬ (n : Int) < 0 by omega), decide_eq_false (show ¬ (n : Int) > 64 by omega)]
  refine Ev.step (f := fun k => roll_CheckExtend.j1 k 2 old (m : Int) top (n : Int) path false) (fun k => ?_) h
  simp only [roll_CheckExtend.j0]
  rw [if_neg (by simp), if_neg (by omega), decide_eq_false (by omega)]
theorem j2_ev (b : Bool) : Ev (fun k => roll_CheckExtend.j2 k b) (if b = true then 10 else 0) := by
  refine Ev.step (f := fun _ => some (if b = true then (10 : Int) else 0)) (fun k => ?_) (Ev.now _)
  simp only [roll_CheckExtend.j2]
  cases b <;> rfl
theorem j3_ev (b : Bool) : Ev (fun k => roll_CheckExtend.j3 k b) (if b = true then 10 else 0) := by
  refine Ev.step (f := fun _ => some (if b = true then (10 : Int) else 0)) (fun k => ?_) (Ev.now _)
  simp only [roll_CheckExtend.j3]
  cases b <;> rfl
/-- Nothing is the beginning of all: with an empty proof. -/
theorem check_zero {top : List Int} {n : Nat} {path : List (List Int)} (hn : n ≤ 64) (h1 : 1 ≤ n) : Ev (fun k => roll_CheckExtend.f k 2 (R []) ((0 : Nat) : Int) top (n : Int) path) (if path.length = 0 then 0 else 10) := by
  refine check_pre hn (by omega) ?_
  refine Ev.step (f := fun k => (oracle_Digest.f k 2 4 ([] : List (List Int))).bind fun bt271 => (if bt271.2 = 0 then (if (path.length : Int) > 0 then (roll_CheckExtend.j2 k true) else ((bytes_Equal.f bt271.1 (R [])).bind fun t275 => (if t275 = true then (if (n : Int) = 0 then ((bytes_Equal.f bt271.1 top).bind fun t276 => (roll_CheckExtend.j2 k (!t276))) else (roll_CheckExtend.j2 k false)) else (roll_CheckExtend.j2 k true)))) else (roll_CheckExtend.j2 k true))) (fun k => ?_) ?_
  · simp only [roll_CheckExtend.j1]
    rw [if_neg (by simp), if_pos (by rfl)]
  refine Ev.bind (Digest_open 4 [] (by decide) (by simp) (by rw [frame_len, cat_nil]; simp)) ?_
  simp only [if_true]
  by_cases hp : path.length = 0
  · simp only [if_pos hp, if_neg (show ¬ (path.length : Int) > 0 by omega), bytes_Equal.f, R_nil, beq_self_eq_true, Option.bind_some, if_true, if_neg (show ¬ (n : Int) = 0 by omega)]
    exact j2_ev false
  · simp only [if_neg hp, if_pos (show (path.length : Int) > 0 by omega)]
    exact j2_ev true
theorem check_some {old top : List Int} {m n : Nat} {path : List (List Int)} (hn : n ≤ 64) (hmn : m ≤ n) (hm : 1 ≤ m) {w i : List Int} {ok : Bool} (h : Ev (fun k => roll_extension_roots.f k 2 old (m : Int) (n : Int) true path) (w, i, ok)) : Ev (fun k => roll_CheckExtend.f k 2 old (m : Int) top (n : Int) path) (if ok = true ∧ (strOfNums w).toList = (strOfNums old).toList ∧ (strOfNums i).toList = (strOfNums top).toList then 0 else 10) := by
  refine check_pre hn hmn ?_
  refine Ev.step (f := fun k => (roll_extension_roots.f k 2 old (m : Int) (n : Int) true path).bind fun bt277 => (if bt277.2.2 = true then ((bytes_Equal.f bt277.1 old).bind fun t284 => (if t284 = true then ((bytes_Equal.f bt277.2.1 top).bind fun t285 => (roll_CheckExtend.j3 k (!t285))) else (roll_CheckExtend.j3 k true))) else (roll_CheckExtend.j3 k true))) (fun k => ?_) ?_
  · simp only [roll_CheckExtend.j1]
    rw [if_neg (by simp), if_neg (by omega)]
  refine Ev.bind h ?_
  cases ok with
  | false =>
    simp only [Bool.false_eq_true, if_false, false_and]
    exact j3_ev true
  | true =>
    simp only [if_true, bytes_Equal.f, Option.bind_some, true_and]
    by_cases h1 : (strOfNums w).toList = (strOfNums old).toList
    · simp only [beq_iff_eq.2 h1, if_true]
      by_cases h2 : (strOfNums i).toList = (strOfNums top).toList
      · simp only [beq_iff_eq.2 h2, if_pos (And.intro h1 h2)]
        exact j3_ev false
      · simp only [beq_eq_false_iff_ne.2 h2, if_neg (fun h : (strOfNums w).toList = (strOfNums old).toList ∧ (strOfNums i).toList = (strOfNums top).toList => h2 h.2)]
        exact j3_ev true
    · simp only [beq_eq_false_iff_ne.2 h1, Bool.false_eq_true, if_false, if_neg (fun h : (strOfNums w).toList = (strOfNums old).toList ∧ (strOfNums i).toList = (strOfNums top).toList => h1 h.1)]
      exact j3_ev true
theorem Root_ev {l : List (List Int)} (hs : Short l) (hl : l.length ≤ 64) : Ev (fun k => roll_Root.f k 2 l) (R l, 0) := by
  simp only [roll_Root.f, roll_fault.f, roll_modes.f]
  simp only [if_neg (show ¬ (2 : Int) = 1 by decide), Option.bind_some, if_pos (show ((2 : Int) == 2) = true by decide), if_neg (show ¬ (l.length : Int) > 64 by omega), if_true]
  exact Ev.bind (R_ev hs) (Ev.now _)
def ownP (l : List (List Int)) (m : Nat) : List (List Int) := if m = 0 then [] else extP l.length l m true
theorem Extend_ev {l : List (List Int)} (hs : Short l) (hl : l.length ≤ 64) {m : Nat} (hm : m ≤ l.length) : Ev (fun k => roll_Extend.f k 2 l (m : Int)) (ownP l m, 0) := by
  refine Ev.congr (f := fun k => roll_Extend.j0 k 2 l (m : Int) false) (fun k => ?_) ?_
  · simp only [roll_Extend.f, roll_fault.f, roll_modes.f]
    simp only [if_neg (show ¬ (2 : Int) = 1 by decide), Option.bind_some, if_pos (show ((2 : Int) == 2) = true by decide), if_neg (show ¬ (l.length : Int) > 64 by omega), if_true, if_neg (show ¬ (m : Int) < 0 by omega), decide_eq_false (show ¬ (m : Int) > (l.length : Int) by omega)]
  refine Ev.step (f := fun k => (roll_root.f k 2 l).bind fun bt219 => (if bt219.2 = 0 then (if (m : Int) = 0 then (some (([] : List (List Int)), 0)) else ((roll_extend.f k 2 l (m : Int) true).bind fun bt223 => (some (bt223.1, bt223.2)))) else (some (([] : List (List Int)), bt219.2)))) (fun k => ?_) ?_
  · simp only [roll_Extend.j0]
    rw [if_neg (by simp)]
  refine Ev.bind (R_ev hs) ?_
  unfold ownP
  by_cases h0 : m = 0
  · simp only [if_true, if_pos h0, if_pos (show (m : Int) = 0 by omega)]
    exact Ev.now _
  · simp only [if_true, if_neg h0, if_neg (show ¬ (m : Int) = 0 by omega)]
    exact Ev.bind (extend_ev l.length l m true (Nat.le_refl _) (by omega) (by omega) hm hs) (Ev.now _)
theorem core {a b path : List (List Int)} (ha : Short a) (hb : Short b) (hab : a.length ≤ b.length) (h1 : 1 ≤ b.length) (hl : b.length ≤ 64) (hp : ∀ p ∈ path, Bytes p) (hpl : path.length < 1000000000000000) : Ev (fun k => chirographkeep_ExtendSound.j1 k path a b) true := by
  have chk : ∀ P : List (List Int), (∀ p ∈ P, Bytes p) → P.length < 1000000000000000 → ∃ c, Ev (fun k => roll_CheckExtend.f k 2 (R a) (a.length : Int) (R b) (b.length : Int) P) c ∧ (c = 0 → a = b.take a.length) := by
    intro P hP hPl
    rcases Nat.eq_zero_or_pos a.length with h0 | h0
    · have := List.eq_nil_of_length_eq_zero h0
      subst this
      exact ⟨_, check_zero hl h1, fun _ => by simp⟩
    · have hs := R_small ha
      obtain ⟨w, i, ok, hev, hso⟩ := roots_sound b.length a.length b.length (R a) true P h0 hab (Nat.le_refl _) (by omega) (R_bytes ha) (by omega) hP hPl
      refine ⟨_, check_some (top := R b) hl hab h0 hev, fun hc => ?_⟩
      by_cases hcond : ok = true ∧ (strOfNums w).toList = (strOfNums (R a)).toList ∧ (strOfNums i).toList = (strOfNums (R b)).toList
      · obtain ⟨b1, b2, b3⟩ := hso hcond.1
        have e1 := (str_iff b1 (R_bytes ha)).1 hcond.2.1
        have e2 := (str_iff b2 (R_bytes hb)).1 hcond.2.2
        have e3 := b3 b rfl hb e2
        exact R_inj ha (hb.take _) (by rw [← e3, e1])
      · rw [if_neg hcond] at hc
        exact absurd hc (by decide)
  have hol : (ownP b a.length).length < 1000000000000000 := by
    unfold ownP
    split
    · simp
    · have := extP_len b.length b a.length true; omega
  have hob : ∀ p ∈ ownP b a.length, Bytes p := by
    unfold ownP
    split
    · simp
    · exact extP_bytes _ _ _ _ hb
  obtain ⟨c1, hc1, hd1⟩ := chk path hp hpl
  obtain ⟨c2, hc2, hd2⟩ := chk (ownP b a.length) hob hol
  have hsame := sameLists_ev a (b.take a.length) (fun x hx => (ha.2 x hx).2) (fun x hx => ((hb.take a.length).2 x hx).2) (by have := ha.1; omega)
  have hpos := R_pos b
  refine Ev.step (f := fun k => (roll_Root.f k 2 a).bind fun bt304 => ((roll_Root.f k 2 b).bind fun bt308 => ((roll_Extend.f k 2 b (a.length : Int)).bind fun bt312 => ((roll_CheckExtend.f k 2 bt304.1 (a.length : Int) bt308.1 (b.length : Int) path).bind fun t316 => ((roll_CheckExtend.f k 2 bt304.1 (a.length : Int) bt308.1 (b.length : Int) bt312.1).bind fun t317 => (if 0 ≤ (a.length : Int) then (if (a.length : Int) ≤ (b.length : Int) then ((chirographkeep_sameLists.f k a (b.take ((a.length : Int) : Int).toNat)).bind fun t323 => (if bt304.2 = 0 then (if bt308.2 = 0 then (if bt312.2 = 0 then (if (bt308.1.length : Int) > 0 then (if t316 = 0 then (if t323 = true then (some ((t317 == 0) == t323)) else (some false)) else (some ((t317 == 0) == t323))) else (some false)) else (some false)) else (some false)) else (some false))) else (none)) else (none))))))) (fun k => by simp only [chirographkeep_ExtendSound.j1]) ?_
  refine Ev.bind (Root_ev ha (by omega)) ?_
  refine Ev.bind (Root_ev hb hl) ?_
  refine Ev.bind (Extend_ev hb hl hab) ?_
  refine Ev.bind hc1 ?_
  by_cases heq : a = b.take a.length
  · have hgood : Ev (fun k => roll_CheckExtend.f k 2 (R a) (a.length : Int) (R b) (b.length : Int) (ownP b a.length)) 0 := by
      rcases Nat.eq_zero_or_pos a.length with h0 | h0
      · have := List.eq_nil_of_length_eq_zero h0
        subst this
        exact check_zero hl h1
      · have hr := roots_good b.length b a.length true (R a) (Nat.le_refl _) (by omega) h0 hab hb (fun _ => by rw [← heq])
        have hc := check_some (top := R b) hl hab h0 hr
        rw [← heq, if_pos ⟨rfl, rfl, rfl⟩] at hc
        unfold ownP
        rw [if_neg (by omega)]
        exact hc
    refine Ev.bind hgood ?_
    simp only [if_pos (show (0 : Int) ≤ (a.length : Int) by omega), if_pos (show (a.length : Int) ≤ (b.length : Int) by omega), Int.toNat_natCast]
    rw [decide_eq_true heq] at hsame
    refine Ev.bind hsame ?_
    simp only [if_true, if_pos (show ((R b).length : Int) > 0 by omega)]
    split <;> exact Ev.now _
  · refine Ev.bind hc2 ?_
    have n1 : ¬ c1 = 0 := fun h => heq (hd1 h)
    have n2 : (c2 == 0) = false := beq_eq_false_iff_ne.2 (fun h => heq (hd2 h))
    simp only [if_pos (show (0 : Int) ≤ (a.length : Int) by omega), if_pos (show (a.length : Int) ≤ (b.length : Int) by omega), Int.toNat_natCast]
    rw [decide_eq_false heq] at hsame
    refine Ev.bind hsame ?_
    simp only [if_true, if_pos (show ((R b).length : Int) > 0 by omega), if_neg n1, n2]
    exact Ev.now _
theorem copy_loop {a path : List (List Int)} (ha : Short a) (ha2 : a.length ≤ 20) (hp : ∀ p ∈ path, Bytes p) (hpl : path.length < 1000000000000000) (t : Nat) (ht : t ≤ a.length) : ∀ (d i : Nat) (b : List (List Int)), i + d = t → t ≤ b.length → Short b → 1 ≤ b.length → b.length ≤ 64 → Ev (fun k => chirographkeep_ExtendSound.l0 k path a b (t : Int) (i : Int)) true
  | 0, i, b, hi, hb, hs, h1, h64 => by
    by_cases hlen : a.length > b.length
    · have e := core (path := path) (ha.take b.length) hs (by rw [List.length_take]; omega) h1 h64 hp hpl
      refine Ev.step (f := fun k => chirographkeep_ExtendSound.j1 k path (a.take b.length) b) (fun k => ?_) e
      simp only [chirographkeep_ExtendSound.l0]
      rw [if_neg (by omega), if_pos (by omega), if_pos (by omega), if_pos (by omega), Int.toNat_natCast]
    · refine Ev.step (f := fun k => chirographkeep_ExtendSound.j1 k path a b) (fun k => ?_) (core ha hs (by omega) h1 h64 hp hpl)
      simp only [chirographkeep_ExtendSound.l0]
      rw [if_neg (by omega), if_neg (by omega)]
  | d + 1, i, b, hi, hb, hs, h1, h64 => by
    have hia : i < a.length := by omega
    have hw : wrap64 ((i : Int) + 1) = ((i + 1 : Nat) : Int) := by rw [w64 _ (by omega)]; omega
    refine Ev.step (f := fun k => chirographkeep_ExtendSound.l0 k path a (b.set i a[i]) (t : Int) ((i + 1 : Nat) : Int)) (fun k => ?_) (copy_loop ha ha2 hp hpl t ht d (i + 1) (b.set i a[i]) (by omega) (by rw [List.length_set]; omega) ⟨by rw [List.length_set]; exact hs.1, fun x hx => ?_⟩ (by rw [List.length_set]; omega) (by rw [List.length_set]; omega))
    · simp only [chirographkeep_ExtendSound.l0]
      rw [if_pos (by omega), if_pos (by omega), if_pos (by omega), if_pos (by omega), rdLL_at hia, Int.toNat_natCast, hw]
    · rcases List.mem_or_eq_of_mem_set hx with h | rfl
      · exact hs.2 x h
      · exact ha.2 _ (List.getElem_mem hia)
theorem ExtendSound : chirographkeep_ExtendSound.Pure := by
  intro l m a path _ _ _ _ _ _ _ hp1 _ hp
  apply Ev.rounds
  obtain ⟨hn, hx⟩ := entries_are l
  obtain ⟨hn2, hx2⟩ := entries_are m
  simp only [chirographkeep_ExtendSound.f]
  refine Ev.bind (entries_ev l) ?_
  refine Ev.bind (entries_ev m) ?_
  generalize (l.take 20).map tx = es at hn hx ⊢
  generalize (m.take 20).map tx = fs at hn2 hx2 ⊢
  simp only [if_pos (show fs.length < 5864062014805 by omega), Option.bind_some]
  have hs : Short (fs ++ [[120]]) := ⟨by simp; omega, fun x hm => by
    rcases List.mem_append.1 hm with h | h
    · exact hx2 x h
    · simp only [List.mem_singleton] at h
      subst h
      refine ⟨by simp, fun y hy => ?_⟩
      simp only [List.mem_singleton] at hy
      subst hy
      omega⟩
  have hlen : (fs ++ [[120]]).length = fs.length + 1 := by simp
  generalize fs ++ [[120]] = s at hs hlen ⊢
  have hmn : mn (es.length : Int) (s.length : Int) = ((min es.length s.length : Nat) : Int) := by unfold mn; split <;> omega
  rw [hmn, w64 _ (by omega), picked_emod a _ (by omega) (by omega)]
  obtain ⟨i, hi, hi2⟩ : ∃ i : Nat, a % (((min es.length s.length : Nat) : Int) + 1) = (i : Int) ∧ i ≤ min es.length s.length := by
    have h1 := Int.emod_nonneg a (show (((min es.length s.length : Nat) : Int) + 1) ≠ 0 by omega)
    have h2 := Int.emod_lt_of_pos a (show (0 : Int) < (((min es.length s.length : Nat) : Int) + 1) by omega)
    exact ⟨(a % (((min es.length s.length : Nat) : Int) + 1)).toNat, by omega, by omega⟩
  rw [hi]
  simp only [Option.bind_some]
  have := copy_loop (a := es) (path := path) ⟨by omega, hx⟩ hn (fun p hm => u8_of (hp p hm).2) (by unfold maxLen at hp1; omega) i (by omega) i 0 s (by omega) (by omega) hs (by omega) (by omega)
  exact this

end Go.Proofs.YtpgegljlgicpkaaDoor.Pure
