/- WireChunks: it does not matter how bytes are cut on their way: for every list of bytes that is no longer than 1048576 and every whole number the law's pure form tells true. Condition: that length (the statement of the second form). -/
import Derived.Test.YtgkfmaiepjjgkaaQWireChunksx2
namespace Go.Proofs.Ytgkfmaiepjjgkaa.Pure
open Go.RowKit Go.Proofs.Ytgkfmaiepjjgkaa.QWireChunks Go.Proofs.YtgkfmaiepjjgkaaW.PrintWords Go.Proofs.YtgkfmaiepjjgkaaW.PrintLast

set_option linter.unusedVariables false
set_option linter.unusedSimpArgs false

theorem w64 (x : Int) (h : -9223372036854775808 ≤ x ∧ x < 9223372036854775808) : wrap64 x = x := by unfold wrap64; omega
def Bytes (b : List Int) : Prop := ∀ x ∈ b, 0 ≤ x ∧ x < 256
theorem Bytes.at_ {b : List Int} (h : Bytes b) (i : Nat) : 0 ≤ b.getD i 0 ∧ b.getD i 0 < 256 := by
  rw [List.getD_eq_getElem?_getD]
  by_cases hi : i < b.length
  · rw [List.getElem?_eq_getElem hi]; exact h _ (List.getElem_mem hi)
  · rw [List.getElem?_eq_none (by omega)]; simp
theorem Bytes.drop {b : List Int} (h : Bytes b) (n : Nat) : Bytes (b.drop n) := fun x hx => h x (List.mem_of_mem_drop hx)
theorem join63 (i : Nat) (x y : Int) (h0 : 0 ≤ x) (h1 : x % 2 ^ i = 0) (h2 : x < 2 ^ 63) (h3 : 0 ≤ y) (h4 : y < 2 ^ i) (h5 : y < 2 ^ 63) : Go.bits .or .i64 x y = x + y :=
  bits_join .i64 63 (by decide) (fun n h0 h1 => by rw [IntKind.wrap_i64]; omega) i x y h0 h1 h2 h3 h4 h5
/-! ### bytes as texts -/
def hd (b : List Int) : Int := b.getD 0 0 * 256 + b.getD 1 0
theorem rd_hd {b : List Int} (h : Bytes b) : (Go.bits .or .i64 (wrap64 ((wrap64 (rd b 0)) * 256)) (wrap64 (rd b 1))) = hd b := by
  have h0 := h.at_ 0
  have h1 := h.at_ 1
  show (Go.bits .or .i64 (wrap64 ((wrap64 (b.getD 0 0)) * 256)) (wrap64 (b.getD 1 0))) = hd b
  rw [w64 (b.getD 0 0) (by omega), w64 (b.getD 1 0) (by omega), w64 (_ * _) (by omega)]
  exact join63 8 _ _ (by omega) (by omega) (by omega) (by omega) (by omega) (by omega)
theorem hd_range {b : List Int} (h : Bytes b) : 0 ≤ hd b ∧ hd b < 65536 := by
  have h0 := h.at_ 0
  have h1 := h.at_ 1
  unfold hd
  omega
/-- What bytes tell: texts, what is left, whether it is bad. -/
inductive Prs : List Int → List ByteArray → List Int → Int → Prop
  | stop (b : List Int) : (b.length < 2 ∨ (hd b ≤ 300 ∧ (b.length : Int) < 2 + hd b)) → Prs b [] b 0
  | bad (b : List Int) : 2 ≤ b.length → 300 < hd b → Prs b [] [] 1
  | step (b : List Int) (l : List ByteArray) (h : List Int) (e : Int) : 2 ≤ b.length → hd b ≤ 300 → 2 + hd b ≤ (b.length : Int) → Prs (b.drop (2 + hd b).toNat) l h e →
      Prs b (if e = 0 then strOfNums ((b.take (2 + hd b).toNat).drop 2) :: l else []) h e
theorem prs_err {b : List Int} {l : List ByteArray} {h : List Int} {e : Int} (p : Prs b l h e) : (e = 0 ∨ (e = 1 ∧ l = [] ∧ h = [])) := by
  induction p with
  | stop b _ => exact .inl rfl
  | bad b _ _ => exact .inr ⟨rfl, rfl, rfl⟩
  | step b l h e _ _ _ _ ih =>
    rcases ih with rfl | ⟨rfl, rfl, rfl⟩
    · exact .inl rfl
    · exact .inr ⟨rfl, rfl, rfl⟩
theorem feed_loop {b : List Int} {l : List ByteArray} {h : List Int} {e : Int} (p : Prs b l h e) : Bytes b → b.length < 140737488355328 → ∀ acc : List ByteArray, acc.length + b.length / 2 < 8796093022208 →
    Ev (fun k => wire_Feed.l0 k b acc) (if e = 0 then acc ++ l else [], h, e) := by
  induction p with
  | stop b hc =>
    intro hb hl acc ha
    have hr := hd_range hb
    rw [if_pos rfl, List.append_nil]
    refine Ev.step (f := fun _ => some (acc, b, 0)) (fun k => ?_) (Ev.now _)
    simp only [wire_Feed.l0, Option.bind_some, List.length_nil, List.nil_append]
    by_cases h2 : b.length < 2
    · rw [if_neg (by omega), if_pos (by omega)]
    · rw [if_pos (by omega), if_pos (by omega), if_pos (by omega), rd_hd hb, if_neg (by omega), w64 _ (by omega), if_pos (by omega), if_pos (by omega)]
  | bad b h2 h3 =>
    intro hb hl acc ha
    rw [if_neg (by decide)]
    refine Ev.step (f := fun _ => some (([], [], 1) : List ByteArray × List Int × Int)) (fun k => ?_) (Ev.now _)
    simp only [wire_Feed.l0]
    rw [if_pos (by omega), if_pos (by omega), if_pos (by omega), rd_hd hb, if_pos (by omega)]
  | step b l h e h2 h3 h4 p ih =>
    intro hb hl acc ha
    have hr := hd_range hb
    have hd' : (b.drop (2 + hd b).toNat).length = b.length - (2 + hd b).toNat := List.length_drop
    have hi := ih (hb.drop _) (by omega) (acc ++ [strOfNums ((b.take (2 + hd b).toNat).drop 2)]) (by rw [List.length_append, List.length_singleton]; omega)
    have he : (if e = 0 then acc ++ [strOfNums ((b.take (2 + hd b).toNat).drop 2)] ++ l else []) = (if e = 0 then acc ++ (if e = 0 then strOfNums ((b.take (2 + hd b).toNat).drop 2) :: l else []) else []) := by
      by_cases h0 : e = 0
      · rw [if_pos h0, if_pos h0, if_pos h0, List.append_assoc, List.singleton_append]
      · rw [if_neg h0, if_neg h0]
    rw [he] at hi
    refine Ev.step (fun k => ?_) hi
    simp only [wire_Feed.l0]
    rw [if_pos (by omega), if_pos (by omega), if_pos (by omega), rd_hd hb, if_neg (by omega), w64 _ (by omega), if_neg (by omega), if_pos (by omega), if_pos (by omega), if_pos (by omega), if_pos (by omega)]
theorem Feed_ev (x y : List Int) (hx : x.length ≤ 301) (hb : Bytes (x ++ y)) (hl : (x ++ y).length < 17592186044416) {l : List ByteArray} {h : List Int} {e : Int} (p : Prs (x ++ y) l h e) : Ev (fun k => wire_Feed.f k x y) (l, h, e) := by
  have hlen : (x ++ y).length = x.length + y.length := List.length_append
  have h1 := feed_loop p hb (by omega) [] (by simp only [List.length_nil]; omega)
  have h2 : (if e = 0 then [] ++ l else []) = l := by
    rcases prs_err p with rfl | ⟨rfl, rfl, rfl⟩ <;> rfl
  rw [h2] at h1
  refine Ev.congr (fun k => ?_) h1
  simp only [wire_Feed.f, Option.bind_some, List.length_nil, List.nil_append]
  rw [if_neg (by omega), if_pos (by omega), if_pos (by omega)]
/-! ### texts as bytes -/
def wl (s : ByteArray) : List Int := (s.size : Int) / 256 % 256 :: (s.size : Int) % 256 :: bytesOf s
def pk : List ByteArray → List Int
  | [] => []
  | s :: r => wl s ++ pk r
theorem wl_len (s : ByteArray) : (wl s).length = 2 + s.size := by
  simp only [wl, List.length_cons, bytesOf_length]
  omega
theorem bytes_of (s : ByteArray) : Bytes (bytesOf s) := by
  intro x hx
  simp only [bytesOf, List.mem_map] at hx
  obtain ⟨u, _, rfl⟩ := hx
  have := UInt8.toNat_lt u
  omega
theorem bytes_pk : ∀ l : List ByteArray, Bytes (pk l)
  | [], x, hx => by simp [pk] at hx
  | s :: r, x, hx => by
    simp only [pk, wl, List.cons_append, List.mem_cons, List.mem_append] at hx
    rcases hx with rfl | rfl | hx | hx
    · omega
    · omega
    · exact bytes_of s x hx
    · exact bytes_pk r x hx
theorem str_bytes (s : ByteArray) : strOfNums (bytesOf s) = s := by
  unfold strOfNums bytesOf
  rw [List.map_map]
  have : ((fun n : Int => UInt8.ofNat n.toNat) ∘ fun b : UInt8 => (b.toNat : Int)) = id := by
    funext u
    simp
  rw [this, List.map_id]
theorem prs_pk : ∀ l : List ByteArray, (∀ s ∈ l, s.size ≤ 300) → Prs (pk l) l [] 0
  | [], _ => Prs.stop [] (.inl (by simp))
  | s :: r, hs => by
    have h0 : s.size ≤ 300 := hs s List.mem_cons_self
    have hh : hd (pk (s :: r)) = s.size := by
      show (s.size : Int) / 256 % 256 * 256 + (s.size : Int) % 256 = s.size
      omega
    have hl : (pk (s :: r)).length = 2 + s.size + (pk r).length := by
      show (wl s ++ pk r).length = _
      rw [List.length_append, wl_len]
    have hn : (2 + hd (pk (s :: r))).toNat = (wl s).length := by rw [hh, wl_len]; omega
    have hdr : (pk (s :: r)).drop (2 + hd (pk (s :: r))).toNat = pk r := by
      rw [hn]
      exact List.drop_left
    have htk : ((pk (s :: r)).take (2 + hd (pk (s :: r))).toNat).drop 2 = bytesOf s := by
      rw [hn]
      show ((wl s ++ pk r).take _).drop 2 = _
      rw [List.take_left]
      rfl
    have h := Prs.step (pk (s :: r)) r [] 0 (by omega) (by omega) (by omega) (by rw [hdr]; exact prs_pk r (fun x hx => hs x (List.mem_cons_of_mem _ hx)))
    rw [if_pos rfl, htk, str_bytes] at h
    exact h
theorem rdS_at {l : List ByteArray} {i : Nat} (h : i < l.length) : rdOf ByteArray.empty l (i : Int) = l[i] := by
  unfold rdOf
  simp [List.getD_eq_getElem?_getD, List.getElem?_eq_getElem h]
theorem Pack_ev (l : List ByteArray) (hl : l.length ≤ 40) (hs : ∀ s ∈ l, s.size ≤ 300) : Ev (fun k => wire_Pack.f k l) (pk l, 0) := by
  have loop : ∀ (d i : Nat) (out : List Int), i + d = l.length → out.length ≤ i * 302 → Ev (fun k => wire_Pack.l0 k out l (l.length : Int) (i : Int)) (out ++ pk (l.drop i), 0) := by
    intro d
    induction d with
    | zero =>
      intro i out hi ho
      rw [List.drop_of_length_le (by omega)]
      refine Ev.step (f := fun _ => some (out ++ [], 0)) (fun k => ?_) (Ev.now _)
      simp only [wire_Pack.l0]
      rw [if_neg (by omega), List.append_nil]
    | succ d ih =>
      intro i out hi ho
      have hlt : i < l.length := by omega
      have hw : wrap64 ((i : Int) + 1) = ((i + 1 : Nat) : Int) := by rw [w64 _ (by omega)]; omega
      have hz := hs l[i] (List.getElem_mem hlt)
      have hn := ih (i + 1) (out ++ wl l[i]) (by omega) (by rw [List.length_append, wl_len]; omega)
      rw [List.drop_eq_getElem_cons hlt]
      have he : out ++ wl l[i] ++ pk (l.drop (i + 1)) = out ++ pk (l[i] :: l.drop (i + 1)) := List.append_assoc _ _ _
      rw [he] at hn
      refine Ev.step (fun k => ?_) hn
      simp only [wire_Pack.l0, Option.bind_some]
      rw [if_pos (by omega), if_pos (by omega), if_pos (by omega), rdS_at hlt, if_neg (by omega), if_pos (by simp only [List.length_cons, List.length_nil]; omega), if_pos (by simp only [List.length_append, List.length_cons, List.length_nil]; omega), hw]
      congr 1
      rw [List.append_assoc]
      rfl
  have h := loop l.length 0 [] (by omega) (by simp)
  refine Ev.congr (fun k => ?_) h
  simp only [wire_Pack.f]
  rw [if_neg (by omega)]
  rfl
theorem pk_len : ∀ (l : List ByteArray), (∀ s ∈ l, s.size ≤ 300) → (pk l).length ≤ 302 * l.length
  | [], _ => by simp [pk]
  | s :: r, h => by
    have h1 := h s List.mem_cons_self
    have h2 := pk_len r (fun x hx => h x (List.mem_cons_of_mem _ hx))
    simp only [pk, List.length_append, wl_len, List.length_cons]
    omega
theorem wires_ev : Ev (fun k => chirographkeep_wireTells.f k) true := by
  refine Ev.bind (Pack_ev [(⟨#[120]⟩ : ByteArray)] (by simp) (by intro s hs; rw [List.mem_singleton] at hs; subst hs; decide)) ?_
  refine Ev.bind (Feed_ev [] (pk [(⟨#[120]⟩ : ByteArray)]) (by simp) (bytes_pk _) (by decide) (prs_pk _ (by intro s hs; rw [List.mem_singleton] at hs; subst hs; decide))) ?_
  exact Ev.now true
theorem sameT_ev (l : List ByteArray) (hl : l.length < 9223372036854775807) : Ev (fun k => chirographkeep_sameTexts.f k l l) true := by
  have loop : ∀ (d i : Nat), i + d = l.length → Ev (fun k => chirographkeep_sameTexts.l0 k l l (l.length : Int) (i : Int)) true := by
    intro d
    induction d with
    | zero =>
      intro i hi
      refine Ev.step (f := fun _ => some true) (fun k => ?_) (Ev.now _)
      simp only [chirographkeep_sameTexts.l0]
      rw [if_neg (by omega)]
    | succ d ih =>
      intro i hi
      have hw : wrap64 ((i : Int) + 1) = ((i + 1 : Nat) : Int) := by rw [w64 _ (by omega)]; omega
      refine Ev.step (fun k => ?_) (ih (i + 1) (by omega))
      simp only [chirographkeep_sameTexts.l0]
      rw [if_pos (by omega), if_pos (by omega), if_pos (by omega), if_pos (by omega), hw, if_pos trivial]
  refine Ev.congr (fun k => ?_) (loop l.length 0 (by omega))
  simp only [chirographkeep_sameTexts.f]
  rw [if_pos trivial]
  rfl

theorem picked_emod (a m : Int) (hm : 0 < m) (hm2 : m < 9223372036854775808) : chirographkeep_picked.f a m = some (a % m) := by
  unfold chirographkeep_picked.f
  rw [if_neg (by omega)]
  have h0 := Int.emod_nonneg a (show m ≠ 0 by omega)
  have h1 := Int.emod_lt_of_pos a hm
  have e : Int.tmod a m = a % m ∨ (Int.tmod a m = a % m - m ∧ 0 < a % m) := by
    rw [Int.tmod_eq_emod]
    split
    · left; omega
    · right
      have : ¬ m ∣ a := fun h => by simp_all
      have := Int.emod_pos_of_not_dvd this
      omega
  rcases e with e | ⟨e, hp⟩
  · rw [e, if_neg (by omega)]
  · rw [e, if_pos (by omega)]; unfold wrap64; congr 1; omega

theorem prs_all (n : Nat) : ∀ b : List Int, Bytes b → b.length ≤ n → ∃ l h e, Prs b l h e := by
  induction n with
  | zero => intro b _ hn; exact ⟨_, _, _, Prs.stop b (.inl (by omega))⟩
  | succ n ih =>
    intro b hb hn
    have hr := hd_range hb
    by_cases h2 : b.length < 2
    · exact ⟨_, _, _, Prs.stop b (.inl h2)⟩
    · by_cases h3 : 300 < hd b
      · exact ⟨_, _, _, Prs.bad b (by omega) h3⟩
      · by_cases h4 : (b.length : Int) < 2 + hd b
        · exact ⟨_, _, _, Prs.stop b (.inr ⟨by omega, h4⟩)⟩
        · obtain ⟨l, h, e, p⟩ := ih (b.drop (2 + hd b).toNat) (hb.drop _) (by rw [List.length_drop]; omega)
          exact ⟨_, _, _, Prs.step b l h e (by omega) (by omega) (by omega) p⟩
theorem prs_left {b : List Int} {l : List ByteArray} {h : List Int} {e : Int} (p : Prs b l h e) : h.length ≤ 301 := by
  induction p with
  | stop b hc => omega
  | bad b _ _ => simp
  | step b l h e _ _ _ _ ih => exact ih
theorem prs_bytes {b : List Int} {l : List ByteArray} {h : List Int} {e : Int} (p : Prs b l h e) : Bytes b → Bytes h := by
  induction p with
  | stop b _ => exact id
  | bad b _ _ => intro _ x hx; simp at hx
  | step b l h e _ _ _ _ ih => exact fun hb => ih (hb.drop _)
theorem prs_short {b : List Int} {l : List ByteArray} {h : List Int} {e : Int} (p : Prs b l h e) : Bytes b → h.length ≤ b.length ∧ l.length ≤ b.length := by
  induction p with
  | stop b _ => intro _; simp
  | bad b _ _ => intro _; simp
  | step b l h e h2 h3 h4 _ ih =>
    intro hb
    have hr := hd_range hb
    have k := ih (hb.drop _)
    rw [List.length_drop] at k
    refine ⟨by omega, ?_⟩
    split
    · simp only [List.length_cons]
      omega
    · simp
theorem hd_app {x y : List Int} (h : 2 ≤ x.length) : hd (x ++ y) = hd x := by
  match x, h with
  | a :: b :: r, _ => rfl
theorem prs_cat {x : List Int} {one : List ByteArray} {h : List Int} {e : Int} (p : Prs x one h e) : e = 0 → ∀ {y : List Int} {two : List ByteArray} {i : List Int} {g : Int}, Bytes x → Prs (h ++ y) two i g → Prs (x ++ y) (if g = 0 then one ++ two else []) i g := by
  induction p with
  | stop b hc =>
    intro _ y two i g _ q
    have : (if g = 0 then [] ++ two else []) = two := by
      rcases prs_err q with rfl | ⟨rfl, rfl, rfl⟩ <;> rfl
    rw [this]
    exact q
  | bad b h2 h3 => intro h0; cases h0
  | step b l h e h2 h3 h4 p ih =>
    intro h0 y two i g hb q
    subst h0
    have hr := hd_range hb
    have k := ih rfl (hb.drop _) q
    have e1 : hd (b ++ y) = hd b := hd_app h2
    have e2 : (b ++ y).drop (2 + hd (b ++ y)).toNat = b.drop (2 + hd b).toNat ++ y := by
      rw [e1, List.drop_append_of_le_length (by omega)]
    have e3 : (b ++ y).take (2 + hd (b ++ y)).toNat = b.take (2 + hd b).toNat := by
      rw [e1, List.take_append_of_le_length (by omega)]
    have r := Prs.step (b ++ y) _ i g (by rw [List.length_append]; omega) (by rw [e1]; exact h3) (by rw [e1, List.length_append]; omega) (by rw [e2]; exact k)
    rw [e3] at r
    have e4 : (if g = 0 then strOfNums ((b.take (2 + hd b).toNat).drop 2) :: (if g = 0 then l ++ two else []) else []) = (if g = 0 then (if (0 : Int) = 0 then strOfNums ((b.take (2 + hd b).toNat).drop 2) :: l else []) ++ two else []) := by
      by_cases hg : g = 0
      · rw [if_pos hg, if_pos hg, if_pos hg, if_pos rfl, List.cons_append]
      · rw [if_neg hg, if_neg hg]
    rw [e4] at r
    exact r
theorem prs_bad {x : List Int} {one : List ByteArray} {h : List Int} {e : Int} (p : Prs x one h e) : e = 1 → ∀ {y : List Int}, Bytes x → Prs (x ++ y) [] [] 1 := by
  induction p with
  | stop b hc => intro h0; cases h0
  | bad b h2 h3 =>
    intro _ y hb
    exact Prs.bad _ (by rw [List.length_append]; omega) (by rw [hd_app h2]; exact h3)
  | step b l h e h2 h3 h4 p ih =>
    intro h0 y hb
    subst h0
    have hr := hd_range hb
    have k := ih rfl (y := y) (hb.drop _)
    have e1 : hd (b ++ y) = hd b := hd_app h2
    have e2 : (b ++ y).drop (2 + hd (b ++ y)).toNat = b.drop (2 + hd b).toNat ++ y := by
      rw [e1, List.drop_append_of_le_length (by omega)]
    have r := Prs.step (b ++ y) [] [] 1 (by rw [List.length_append]; omega) (by rw [e1]; exact h3) (by rw [e1, List.length_append]; omega) (by rw [e2]; exact k)
    rw [if_neg (by decide)] at r
    exact r
theorem u8_of {l : List Int} (h : ∀ x ∈ l, (Lit.int .u8 x).wf = true) : Bytes l := by
  intro x hx
  have := h x hx
  simp [Lit.wf, IntKind.min, IntKind.max, IntKind.signed, IntKind.bits] at this
  omega
theorem WireChunks (b : List Int) (c : Int) (hl : b.length ≤ 1048576) (hw : ∀ x ∈ b, (Lit.int .u8 x).wf = true) : ∃ k, chirographkeep_WireChunks.f k b c = some true := by
  have hb := u8_of hw
  apply Ev.rounds
  have hq : chirographkeep_picked.f c (wrap64 ((b.length : Int) + 1)) = some (c % ((b.length : Int) + 1)) := by
    rw [w64 _ (by omega), picked_emod _ _ (by omega) (by omega)]
  have h0 : 0 ≤ c % ((b.length : Int) + 1) := Int.emod_nonneg _ (by omega)
  have h1 : c % ((b.length : Int) + 1) < (b.length : Int) + 1 := Int.emod_lt_of_pos _ (by omega)
  simp only [chirographkeep_WireChunks.f, hq, Option.bind_some]
  generalize c % ((b.length : Int) + 1) = k at h0 h1 ⊢
  obtain ⟨n, rfl⟩ : ∃ n : Nat, k = (n : Int) := ⟨k.toNat, by omega⟩
  have hk : ((n : Int)).toNat = n := by omega
  simp only [hk, if_pos h0, if_pos (show (n : Int) ≤ (b.length : Int) by omega)]
  have hx : Bytes (b.take n) := fun x hx => hb x (List.mem_of_mem_take hx)
  have hy : Bytes (b.drop n) := hb.drop n
  have hxl : (b.take n).length ≤ b.length := by rw [List.length_take]; omega
  have hyl : (b.drop n).length ≤ b.length := by rw [List.length_drop]; omega
  have hcat : b.take n ++ b.drop n = b := List.take_append_drop n b
  generalize b.take n = x at hx hxl hcat ⊢
  generalize b.drop n = y at hy hyl hcat ⊢
  obtain ⟨one, h, f, p⟩ := prs_all _ x hx (Nat.le_refl _)
  have hh := prs_bytes p hx
  have hhl := prs_left p
  have hps := prs_short p hx
  have hhy : Bytes (h ++ y) := by
    intro z hz
    rcases List.mem_append.1 hz with hz | hz
    · exact hh z hz
    · exact hy z hz
  obtain ⟨two, i, g, q⟩ := prs_all _ (h ++ y) hhy (Nat.le_refl _)
  have hqs := prs_short q hhy
  have hhyl : (h ++ y).length = h.length + y.length := List.length_append
  rcases prs_err p with h5 | ⟨h5, h6, h7⟩
  · subst h5
    have r := prs_cat p rfl hx q
    rw [hcat] at r
    refine Ev.bind (Feed_ev [] b (by simp) (by exact hb) (by rw [List.nil_append]; omega) r) ?_
    refine Ev.bind (Feed_ev [] x (by simp) (by exact hx) (by rw [List.nil_append]; omega) p) ?_
    refine Ev.bind (Feed_ev h y hhl hhy (by omega) q) ?_
    simp only [if_true]
    refine Ev.bind wires_ev ?_
    simp only [if_true]
    by_cases hg : g = 0
    · subst hg
      simp only [if_true, if_pos (show one.length + two.length < 8796093022208 by omega)]
      refine Ev.bind (sameT_ev _ (by rw [List.length_append]; omega)) ?_
      simp only [if_true, beq_self_eq_true]
      exact Ev.now _
    · simp only [if_neg hg]
      exact Ev.now _
  · subst h5 h6 h7
    have r := prs_bad p rfl (y := y) hx
    rw [hcat] at r
    refine Ev.bind (Feed_ev [] b (by simp) (by exact hb) (by rw [List.nil_append]; omega) r) ?_
    refine Ev.bind (Feed_ev [] x (by simp) (by exact hx) (by rw [List.nil_append]; omega) p) ?_
    refine Ev.bind (Feed_ev [] y (by simp) hhy (by omega) q) ?_
    simp only [if_neg (show ¬ (1 : Int) = 0 by decide)]
    refine Ev.bind wires_ev ?_
    simp only [if_true, beq_self_eq_true]
    exact Ev.now _

end Go.Proofs.Ytgkfmaiepjjgkaa.Pure
