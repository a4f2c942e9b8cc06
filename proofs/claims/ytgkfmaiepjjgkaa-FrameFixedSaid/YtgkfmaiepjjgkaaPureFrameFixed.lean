/- FrameFixed: what is taken apart as a frame is put together just so: for every list of bytes the law's pure form tells true. Conditions: none beyond the argument's own kind and size. -/
import Derived.Test.YtgkfmaiepjjgkaaQFrameFixedx2
namespace Go.Proofs.Ytgkfmaiepjjgkaa.Pure
open Go.RowKit Go.Proofs.Ytgkfmaiepjjgkaa.QFrameFixed Go.Proofs.YtgkfmaiepjjgkaaW.PrintWords Go.Proofs.YtgkfmaiepjjgkaaW.PrintLast

set_option linter.unusedVariables false
set_option linter.unusedSimpArgs false

/-! ### frames, as lists of numbers -/
def four (n : Int) : List Int := [(n / 16777216) % 256, (n / 65536) % 256, (n / 256) % 256, n % 256]
def cat (ps : List (List Int)) : List Int := ps.flatMap fun p => four (p.length : Int) ++ p
def frameL (t : Int) (ps : List (List Int)) : List Int := [t % 256, (ps.length : Int) % 256] ++ cat ps
theorem four_length (n : Int) : (four n).length = 4 := rfl
theorem cat_nil : cat [] = [] := rfl
theorem cat_cons (p : List Int) (ps : List (List Int)) : cat (p :: ps) = four (p.length : Int) ++ p ++ cat ps := by unfold cat; rw [List.flatMap_cons]
theorem cat_append (ps qs : List (List Int)) : cat (ps ++ qs) = cat ps ++ cat qs := by unfold cat; rw [List.flatMap_append]
theorem cat_part {ps : List (List Int)} {i : Nat} (h : i < ps.length) : (cat (ps.drop i)).length = 4 + ps[i].length + (cat (ps.drop (i + 1))).length := by
  rw [List.drop_eq_getElem_cons h, cat_cons]
  simp only [List.length_append, four_length]
theorem rdLL_at {ps : List (List Int)} {i : Nat} (h : i < ps.length) : rd_L1 ps (i : Int) = ps[i] := by
  unfold rd_L1
  simp [List.getD_eq_getElem?_getD, List.getElem?_eq_getElem h]
theorem rd_at {l : List Int} {i : Nat} (h : i < l.length) : rd l (i : Int) = l[i] := by
  unfold rd
  simp [List.getD_eq_getElem?_getD, List.getElem?_eq_getElem h]
theorem w64 (x : Int) (h : -9223372036854775808 ≤ x ∧ x < 9223372036854775808) : wrap64 x = x := by unfold wrap64; omega

theorem frame_loop (ps : List (List Int)) (hps : ps.length < 1000000) (d : Nat) : ∀ (i : Nat) (out : List Int), i + d = ps.length → (out ++ cat (ps.drop i)).length < 140737488355328 →
    Ev (fun k => oracle_frame.l0 k out ps (ps.length : Int) (i : Int)) (out ++ cat (ps.drop i)) := by
  induction d with
  | zero =>
    intro i out hi hl
    refine Ev.step (f := fun _ => some (out ++ cat (ps.drop i))) (fun k => ?_) (Ev.now _)
    simp only [oracle_frame.l0]
    rw [if_neg (by omega), List.drop_of_length_le (by omega), cat_nil, List.append_nil]
  | succ d ih =>
    intro i out hi hl
    have hlt : i < ps.length := by omega
    have hp := cat_part hlt
    rw [List.length_append, hp] at hl
    have hw : wrap64 ((i : Int) + 1) = ((i + 1 : Nat) : Int) := by rw [w64 _ (by omega)]; omega
    have e : out ++ cat (ps.drop i) = (out ++ four (ps[i].length : Int) ++ ps[i]) ++ cat (ps.drop (i + 1)) := by
      rw [List.drop_eq_getElem_cons hlt, cat_cons]
      simp only [List.append_assoc]
    rw [e]
    refine Ev.step (f := fun k => oracle_frame.l0 k (out ++ four (ps[i].length : Int) ++ ps[i]) ps (ps.length : Int) ((i + 1 : Nat) : Int)) (fun k => ?_) (ih (i + 1) (out ++ four (ps[i].length : Int) ++ ps[i]) (by omega) (by simp only [List.length_append, four_length]; omega))
    simp only [oracle_frame.l0]
    rw [if_pos (by omega), if_pos (by omega), if_pos (by omega), rdLL_at hlt]
    simp only [oracle_four.f, Option.bind_some]
    rw [if_pos (by simp only [List.length_cons, List.length_nil]; omega), if_pos (by simp only [List.length_append, List.length_cons, List.length_nil]; omega), hw]
    rfl
theorem frame_ev (t : Int) (ps : List (List Int)) (hps : ps.length < 1000000) (hl : (frameL t ps).length < 140737488355328) : Ev (fun k => oracle_frame.f k t ps) (frameL t ps) := by
  have h := frame_loop ps hps ps.length 0 [t % 256, (ps.length : Int) % 256] (by omega) (by simpa [frameL] using hl)
  exact h
theorem Frame_loop (t : Int) (ps : List (List Int)) (hps : ps.length ≤ 8) (hl : (frameL t ps).length ≤ 16777216) (d : Nat) : ∀ (i : Nat) (all : Int), i + d = ps.length → all + (cat (ps.drop i)).length = (frameL t ps).length → 0 ≤ all →
    Ev (fun k => oracle_Frame.l0 k t ps all ps (ps.length : Int) (i : Int)) (frameL t ps, 0) := by
  induction d with
  | zero =>
    intro i all hi ha h0
    rw [List.drop_of_length_le (by omega), cat_nil] at ha
    simp only [List.length_nil] at ha
    refine Ev.step (f := fun k => (oracle_frame.f k t ps).bind fun t118 => some (t118, 0)) (fun k => ?_) (Ev.bind (frame_ev t ps (by omega) (by omega)) (Ev.now _))
    simp only [oracle_Frame.l0]
    rw [if_neg (by omega), if_neg (by omega)]
  | succ d ih =>
    intro i all hi ha h0
    have hlt : i < ps.length := by omega
    have hp := cat_part hlt
    have hw : wrap64 ((i : Int) + 1) = ((i + 1 : Nat) : Int) := by rw [w64 _ (by omega)]; omega
    refine Ev.step (f := fun k => oracle_Frame.l0 k t ps (all + (4 + (ps[i].length : Int))) ps (ps.length : Int) ((i + 1 : Nat) : Int)) (fun k => ?_) (ih (i + 1) (all + (4 + (ps[i].length : Int))) (by omega) (by omega) (by omega))
    simp only [oracle_Frame.l0]
    rw [if_pos (by omega), if_pos (by omega), if_pos (by omega), rdLL_at hlt, if_neg (by omega), hw, w64 (4 + _) (by omega), w64 (all + _) (by omega)]
theorem Frame_ok (t : Int) (ps : List (List Int)) (ht : 1 ≤ t ∧ t ≤ 9) (hps : ps.length ≤ 8) (hl : (frameL t ps).length ≤ 16777216) : Ev (fun k => oracle_Frame.f k t ps) (frameL t ps, 0) := by
  have h := Frame_loop t ps hps hl ps.length 0 2 (by omega) (by simp [frameL]; omega) (by omega)
  refine Ev.congr (f := fun k => oracle_Frame.j0 k t ps false) (fun k => ?_) ?_
  · simp only [oracle_Frame.f]
    rw [if_neg (by omega), decide_eq_false (by omega)]
  · refine Ev.step (f := fun k => oracle_Frame.l0 k t ps 2 ps (ps.length : Int) 0) (fun k => ?_) h
    simp only [oracle_Frame.j0]
    rw [if_neg (by simp), if_neg (by omega)]
theorem four_bytes (a : Int) : ∀ x ∈ four a, 0 ≤ x ∧ x < 256 := by
  intro x hx
  simp [four] at hx
  omega

/-! ### frames taken apart -/
def be4 (b : List Int) : Int := b.getD 0 0 * 16777216 + b.getD 1 0 * 65536 + b.getD 2 0 * 256 + b.getD 3 0
def Bytes (b : List Int) : Prop := ∀ x ∈ b, 0 ≤ x ∧ x < 256
def pl (t : Int) : Nat → List Int → List (List Int) → Int × List (List Int) × Int
  | 0, b, acc => if b.length > 0 then (0, [], 3) else (t, acc, 0)
  | n + 1, b, acc => if b.length < 4 then (0, [], 4) else if ((b.drop 4).length : Int) < be4 b then (0, [], 4) else pl t n ((b.drop 4).drop (be4 b).toNat) (acc ++ [(b.drop 4).take (be4 b).toNat])
def parse (b : List Int) : Int × List (List Int) × Int :=
  if b.length > 16777216 then (0, [], 1) else if b.length < 1 then (0, [], 4) else if b.getD 0 0 < 1 ∨ b.getD 0 0 > 9 then (0, [], 6) else
    if b.length < 2 then (0, [], 4) else if b.getD 1 0 > 8 then (0, [], 1) else pl (b.getD 0 0) (b.getD 1 0).toNat (b.drop 2) []
theorem Bytes.at_ {b : List Int} (h : Bytes b) (i : Nat) : 0 ≤ b.getD i 0 ∧ b.getD i 0 < 256 := by
  rw [List.getD_eq_getElem?_getD]
  by_cases hi : i < b.length
  · rw [List.getElem?_eq_getElem hi]; exact h _ (List.getElem_mem hi)
  · rw [List.getElem?_eq_none (by omega)]; simp
theorem Bytes.drop {b : List Int} (h : Bytes b) (n : Nat) : Bytes (b.drop n) := fun x hx => h x (List.mem_of_mem_drop hx)
theorem Bytes.take {b : List Int} (h : Bytes b) (n : Nat) : Bytes (b.take n) := fun x hx => h x (List.mem_of_mem_take hx)
theorem join63 (i : Nat) (x y : Int) (h0 : 0 ≤ x) (h1 : x % 2 ^ i = 0) (h2 : x < 2 ^ 63) (h3 : 0 ≤ y) (h4 : y < 2 ^ i) (h5 : y < 2 ^ 63) : Go.bits .or .i64 x y = x + y :=
  bits_join .i64 63 (by decide) (fun n h0 h1 => by rw [IntKind.wrap_i64]; omega) i x y h0 h1 h2 h3 h4 h5
theorem or4 (a b c d : Int) (ha : 0 ≤ a ∧ a < 256) (hb : 0 ≤ b ∧ b < 256) (hc : 0 ≤ c ∧ c < 256) (hd : 0 ≤ d ∧ d < 256) :
    (Go.bits .or .i64 (Go.bits .or .i64 (Go.bits .or .i64 (wrap64 ((wrap64 a) * 16777216)) (wrap64 ((wrap64 b) * 65536))) (wrap64 ((wrap64 c) * 256))) (wrap64 d)) = a * 16777216 + b * 65536 + c * 256 + d := by
  rw [w64 a (by omega), w64 b (by omega), w64 c (by omega), w64 d (by omega), w64 (a * _) (by omega), w64 (b * _) (by omega), w64 (c * _) (by omega)]
  rw [join63 24 (a * 16777216) (b * 65536) (by omega) (by omega) (by omega) (by omega) (by omega) (by omega)]
  rw [join63 16 _ (c * 256) (by omega) (by omega) (by omega) (by omega) (by omega) (by omega)]
  rw [join63 8 _ d (by omega) (by omega) (by omega) (by omega) (by omega) (by omega)]
theorem be4_range {b : List Int} (h : Bytes b) : 0 ≤ be4 b ∧ be4 b < 4294967296 := by
  have := h.at_ 0; have := h.at_ 1; have := h.at_ 2; have := h.at_ 3
  unfold be4
  omega
theorem rd_be4 {b : List Int} (h : Bytes b) : (Go.bits .or .i64 (Go.bits .or .i64 (Go.bits .or .i64 (wrap64 ((wrap64 (rd b 0)) * 16777216)) (wrap64 ((wrap64 (rd b 1)) * 65536))) (wrap64 ((wrap64 (rd b 2)) * 256))) (wrap64 (rd b 3))) = be4 b :=
  or4 _ _ _ _ (h.at_ 0) (h.at_ 1) (h.at_ 2) (h.at_ 3)
theorem parse_loop (t : Int) (n : Nat) (hn : n ≤ 8) (d : Nat) : ∀ (i : Nat) (b : List Int) (acc : List (List Int)), i + d = n → Bytes b → b.length ≤ 16777216 → acc.length ≤ i →
    Ev (fun k => oracle_Parse.l0 k b t acc (n : Int) (i : Int)) (pl t d b acc) := by
  induction d with
  | zero =>
    intro i b acc hi hb hl ha
    refine Ev.step (f := fun _ => some (pl t 0 b acc)) (fun k => ?_) (Ev.now _)
    simp only [oracle_Parse.l0, pl]
    rw [if_neg (by omega)]
    by_cases h : b.length > 0
    · rw [if_pos (by omega), if_pos h]
    · rw [if_neg (by omega), if_neg h]
  | succ d ih =>
    intro i b acc hi hb hl ha
    have hw : wrap64 ((i : Int) + 1) = ((i + 1 : Nat) : Int) := by rw [w64 _ (by omega)]; omega
    by_cases h4 : b.length < 4
    · refine Ev.step (f := fun _ => some (pl t (d + 1) b acc)) (fun k => ?_) (Ev.now _)
      simp only [oracle_Parse.l0, pl]
      rw [if_pos (by omega), if_pos (by omega), if_pos h4]
    · have hr := be4_range hb
      have hdl : (b.drop 4).length = b.length - 4 := List.length_drop
      by_cases hk : ((b.drop 4).length : Int) < be4 b
      · refine Ev.step (f := fun _ => some (pl t (d + 1) b acc)) (fun k => ?_) (Ev.now _)
        simp only [oracle_Parse.l0, pl, rd_be4 hb]
        rw [if_pos (by omega), if_neg (by omega), if_pos (by omega), if_pos (by omega), if_pos (by omega), if_pos (by omega), if_pos (by omega)]
        simp only [Option.bind_some]
        rw [if_pos hk, if_neg h4, if_pos hk]
      · refine Ev.step (f := fun k => oracle_Parse.l0 k ((b.drop 4).drop (be4 b).toNat) t (acc ++ [(b.drop 4).take (be4 b).toNat]) (n : Int) ((i + 1 : Nat) : Int)) (fun k => ?_) ?_
        · simp only [oracle_Parse.l0, rd_be4 hb]
          rw [if_pos (by omega), if_neg (by omega), if_pos (by omega), if_pos (by omega), if_pos (by omega), if_pos (by omega), if_pos (by omega)]
          simp only [Option.bind_some]
          rw [if_neg hk, if_pos hr.1, if_pos (by omega), if_pos (by simp only [List.length_nil, List.length_take]; omega), if_pos (by omega), hw, List.nil_append]
        · rw [show pl t (d + 1) b acc = pl t d ((b.drop 4).drop (be4 b).toNat) (acc ++ [(b.drop 4).take (be4 b).toNat]) from by simp only [pl]; rw [if_neg h4, if_neg hk]]
          exact ih (i + 1) _ _ (by omega) ((hb.drop 4).drop _) (by rw [List.length_drop]; omega) (by rw [List.length_append, List.length_singleton]; omega)
theorem parse_ev (b : List Int) (hb : Bytes b) : Ev (fun k => oracle_Parse.f k b) (parse b) := by
  have r0 := hb.at_ 0
  have r1 := hb.at_ 1
  have e0 : wrap64 (rd b 0) = b.getD 0 0 := w64 _ (by unfold rd; simp only [Int.toNat_zero]; omega)
  have e1 : wrap64 (rd b 1) = b.getD 1 0 := w64 _ (by unfold rd; simp only [show (1 : Int).toNat = 1 from rfl]; omega)
  unfold parse oracle_Parse.f
  simp only [e0]
  by_cases h1 : b.length > 16777216
  · simp only [if_pos h1, if_pos (show (b.length : Int) > 16777216 by omega)]
    exact Ev.now _
  simp only [if_neg h1, if_neg (show ¬ (b.length : Int) > 16777216 by omega)]
  by_cases h2 : b.length < 1
  · simp only [if_pos h2, if_pos (show (b.length : Int) < 1 by omega)]
    exact Ev.now _
  simp only [if_neg h2, if_neg (show ¬ (b.length : Int) < 1 by omega), if_pos (show 0 < (b.length : Int) by omega)]
  have hj : ∀ f : Bool, f = decide (b.getD 0 0 < 1 ∨ b.getD 0 0 > 9) → Ev (fun k => oracle_Parse.j0 k b (b.getD 0 0) f) (if b.getD 0 0 < 1 ∨ b.getD 0 0 > 9 then (0, [], 6) else
      if b.length < 2 then (0, [], 4) else if b.getD 1 0 > 8 then (0, [], 1) else pl (b.getD 0 0) (b.getD 1 0).toNat (b.drop 2) []) := by
    intro f hf
    by_cases h3 : b.getD 0 0 < 1 ∨ b.getD 0 0 > 9
    · rw [if_pos h3]
      refine Ev.step (f := fun _ => some (0, [], 6)) (fun k => ?_) (Ev.now _)
      simp only [oracle_Parse.j0]
      rw [if_pos (by rw [hf]; exact decide_eq_true h3)]
    rw [if_neg h3]
    have hf' : ¬ f = true := by rw [hf]; simpa using h3
    by_cases h4 : b.length < 2
    · rw [if_pos h4]
      refine Ev.step (f := fun _ => some (0, [], 4)) (fun k => ?_) (Ev.now _)
      simp only [oracle_Parse.j0]
      rw [if_neg hf', if_pos (by omega)]
    rw [if_neg h4]
    by_cases h5 : b.getD 1 0 > 8
    · rw [if_pos h5]
      refine Ev.step (f := fun _ => some (0, [], 1)) (fun k => ?_) (Ev.now _)
      simp only [oracle_Parse.j0, e1]
      rw [if_neg hf', if_neg (by omega), if_pos (by omega), if_pos h5]
    rw [if_neg h5]
    refine Ev.step (f := fun k => oracle_Parse.l0 k (b.drop 2) (b.getD 0 0) [] (((b.getD 1 0).toNat : Nat) : Int) ((0 : Nat) : Int)) (fun k => ?_) (parse_loop _ _ (by omega) _ 0 _ _ (by omega) (hb.drop 2) (by rw [List.length_drop]; omega) (by simp))
    simp only [oracle_Parse.j0, e1]
    rw [if_neg hf', if_neg (by omega), if_pos (by omega), if_neg h5, if_pos (by omega), show (((b.getD 1 0).toNat : Nat) : Int) = b.getD 1 0 from by omega]
    rfl
  by_cases h3 : b.getD 0 0 < 1
  · simp only [if_pos h3]
    exact hj true (decide_eq_true (Or.inl h3)).symm
  · simp only [if_neg h3]
    exact hj _ (by simp only [h3, false_or])

theorem u8_of {l : List Int} (h : ∀ x ∈ l, (Lit.int .u8 x).wf = true) : Bytes l := by
  intro x hx
  have := h x hx
  simp [Lit.wf, IntKind.min, IntKind.max, IntKind.signed, IntKind.bits] at this
  omega
theorem four_be4 {b : List Int} (h : Bytes b) (hl : 4 ≤ b.length) : four (be4 b) = b.take 4 := by
  match b, hl with
  | x :: y :: z :: v :: r, _ =>
    have h0 := h x (by simp)
    have h1 := h y (by simp)
    have h2 := h z (by simp)
    have h3 := h v (by simp)
    simp [four, be4]
    omega
theorem pl_tells (t : Int) (n : Nat) : ∀ (b : List Int) (acc : List (List Int)), Bytes b →
    ((pl t n b acc).2.2 = 0 ∧ (pl t n b acc).1 = t ∧ ∃ qs, (pl t n b acc).2.1 = acc ++ qs ∧ qs.length = n ∧ cat qs = b) ∨ ((pl t n b acc).2.2 ≠ 0 ∧ (pl t n b acc).1 = 0 ∧ (pl t n b acc).2.1 = []) := by
  induction n with
  | zero =>
    intro b acc hb
    unfold pl
    by_cases h : b.length > 0
    · rw [if_pos h]; right; simp
    · rw [if_neg h]
      have : b = [] := List.length_eq_zero_iff.mp (by omega)
      left
      exact ⟨rfl, rfl, [], by simp, rfl, by rw [this, cat_nil]⟩
  | succ n ih =>
    intro b acc hb
    unfold pl
    by_cases h4 : b.length < 4
    · rw [if_pos h4]; right; simp
    rw [if_neg h4]
    by_cases hk : ((b.drop 4).length : Int) < be4 b
    · rw [if_pos hk]; right; simp
    rw [if_neg hk]
    rcases ih ((b.drop 4).drop (be4 b).toNat) (acc ++ [(b.drop 4).take (be4 b).toNat]) ((hb.drop 4).drop _) with ⟨h1, h2, qs, h3, h5, h6⟩ | h
    · left
      have hr := be4_range hb
      refine ⟨h1, h2, (b.drop 4).take (be4 b).toNat :: qs, by rw [h3]; simp, by simp [h5], ?_⟩
      rw [cat_cons, h6]
      have e : (((b.drop 4).take (be4 b).toNat).length : Int) = be4 b := by rw [List.length_take]; omega
      rw [e, four_be4 hb (by omega), List.append_assoc, List.take_append_drop, List.take_append_drop]
    · right; exact h
theorem parse_tells (b : List Int) (hb : Bytes b) : ((parse b).2.2 = 0 ∧ 1 ≤ (parse b).1 ∧ (parse b).1 ≤ 9 ∧ (parse b).2.1.length ≤ 8 ∧ frameL (parse b).1 (parse b).2.1 = b ∧ b.length ≤ 16777216) ∨ ((parse b).2.2 ≠ 0 ∧ (parse b).1 = 0 ∧ (parse b).2.1 = []) := by
  have r0 := hb.at_ 0
  have r1 := hb.at_ 1
  unfold parse
  by_cases h1 : b.length > 16777216
  · rw [if_pos h1]; right; simp
  rw [if_neg h1]
  by_cases h2 : b.length < 1
  · rw [if_pos h2]; right; simp
  rw [if_neg h2]
  by_cases h3 : b.getD 0 0 < 1 ∨ b.getD 0 0 > 9
  · rw [if_pos h3]; right; simp
  rw [if_neg h3]
  by_cases h4 : b.length < 2
  · rw [if_pos h4]; right; simp
  rw [if_neg h4]
  by_cases h5 : b.getD 1 0 > 8
  · rw [if_pos h5]; right; simp
  rw [if_neg h5]
  rcases pl_tells (b.getD 0 0) (b.getD 1 0).toNat (b.drop 2) [] (hb.drop 2) with ⟨g1, g2, qs, g3, g4, g5⟩ | h
  · left
    rw [g1, g2, g3, List.nil_append]
    refine ⟨rfl, by omega, by omega, by omega, ?_, by omega⟩
    unfold frameL
    rw [g5, g4]
    match b, h4 with
    | x :: y :: r, _ =>
      simp at r0 r1 ⊢
      omega
    | [_], h => simp at h
    | [], h => simp at h
  · right; exact h
theorem FrameFixed : chirographkeep_FrameFixed.Pure := by
  intro b _ _ wb
  have hb := u8_of wb
  apply Ev.rounds
  unfold chirographkeep_FrameFixed.f
  refine Ev.bind (Frame_ok 1 [] (by omega) (by simp) (by simp [frameL, cat])) ?_
  refine Ev.bind (parse_ev b hb) ?_
  rcases parse_tells b hb with ⟨h1, h2, h3, h4, h5, h6⟩ | ⟨h1, h2, h3⟩
  · simp only [if_pos h1]
    refine Ev.bind (Frame_ok _ _ ⟨h2, h3⟩ h4 (by rw [h5]; exact h6)) ?_
    rw [h5]
    simp [frameL, cat]
    exact Ev.now true
  · simp only [if_neg h1, h2, h3]
    simp [frameL, cat]
    exact Ev.now true

end Go.Proofs.Ytgkfmaiepjjgkaa.Pure
