/- WireBack: texts come as they were sent, and nothing is held then: for every list of raw things the law's pure form tells true. Conditions: none beyond the argument's own kind and size. -/
import Derived.Test.YtgkfmaiepjjgkaaQWireBackx2
namespace Go.Proofs.Ytgkfmaiepjjgkaa.Pure
open Go.RowKit Go.Proofs.Ytgkfmaiepjjgkaa.QWireBack Go.Proofs.YtgkfmaiepjjgkaaW.PrintWords Go.Proofs.YtgkfmaiepjjgkaaW.PrintLast

set_option linter.unusedVariables false
set_option linter.unusedSimpArgs false

theorem w64 (x : Int) (h : -9223372036854775808 ≤ x ∧ x < 9223372036854775808) : wrap64 x = x := by unfold wrap64; omega
def Bytes (b : List Int) : Prop := ∀ x ∈ b, 0 ≤ x ∧ x < 256
theorem Bytes.at_ {b : List Int} (h : Bytes b) (i : Nat) : 0 ≤ b.getD i 0 ∧ b.getD i 0 < 256 := by
  rw [List.getD_eq_getElem?_getD]
  by_cases hi : i < b.length
  · rw [List.getElem?_eq_getElem hi]; exact h _ (List.getElem_mem hi)
  · rw [List.getElem?_eq_none (by omega)]; simp
theorem Bytes.drop {b : List Int} (h : Bytes b) (n : Nat) : Bytes (b.drop n) := fun x hx => h x (List.mem_of_mem_drop hx)
theorem join63 (i : Nat) (x y : Int) (h0 : 0 ≤ x) (h1 : x % 2 ^ i = 0) (h2 : x < 2 ^ 63) (h3 : 0 ≤ y) (h4 : y < 2 ^ i) (h5 : y < 2 ^ 63) : Go.bits .or .i64 x y = x + y :=
  bits_join .i64 63 (by decide) (fun n h0 h1 => by rw [IntKind.wrap_i64]; omega) i x y h0 h1 h2 h3 h4 h5
/-! ### bytes as texts -/
def hd (b : List Int) : Int := b.getD 0 0 * 256 + b.getD 1 0
theorem rd_hd {b : List Int} (h : Bytes b) : (Go.bits .or .i64 (wrap64 ((wrap64 (rd b 0)) * 256)) (wrap64 (rd b 1))) = hd b := by
  have h0 := h.at_ 0
  have h1 := h.at_ 1
  show (Go.bits .or .i64 (wrap64 ((wrap64 (b.getD 0 0)) * 256)) (wrap64 (b.getD 1 0))) = hd b
  rw [w64 (b.getD 0 0) (by omega), w64 (b.getD 1 0) (by omega), w64 (_ * _) (by omega)]
  exact join63 8 _ _ (by omega) (by omega) (by omega) (by omega) (by omega) (by omega)
theorem hd_range {b : List Int} (h : Bytes b) : 0 ≤ hd b ∧ hd b < 65536 := by
  have h0 := h.at_ 0
  have h1 := h.at_ 1
  unfold hd
  omega
/-- What bytes tell: texts, what is left, whether it is bad. -/
inductive Prs : List Int → List ByteArray → List Int → Int → Prop
  | stop (b : List Int) : (b.length < 2 ∨ (hd b ≤ 300 ∧ (b.length : Int) < 2 + hd b)) → Prs b [] b 0
  | bad (b : List Int) : 2 ≤ b.length → 300 < hd b → Prs b [] [] 1
  | step (b : List Int) (l : List ByteArray) (h : List Int) (e : Int) : 2 ≤ b.length → hd b ≤ 300 → 2 + hd b ≤ (b.length : Int) → Prs (b.drop (2 + hd b).toNat) l h e →
      Prs b (if e = 0 then strOfNums ((b.take (2 + hd b).toNat).drop 2) :: l else []) h e
theorem prs_err {b : List Int} {l : List ByteArray} {h : List Int} {e : Int} (p : Prs b l h e) : (e = 0 ∨ (e = 1 ∧ l = [] ∧ h = [])) := by
  induction p with
  | stop b _ => exact .inl rfl
  | bad b _ _ => exact .inr ⟨rfl, rfl, rfl⟩
  | step b l h e _ _ _ _ ih =>
    rcases ih with rfl | ⟨rfl, rfl, rfl⟩
    · exact .inl rfl
    · exact .inr ⟨rfl, rfl, rfl⟩
theorem feed_loop {b : List Int} {l : List ByteArray} {h : List Int} {e : Int} (p : Prs b l h e) : Bytes b → b.length < 140737488355328 → ∀ acc : List ByteArray, acc.length + b.length / 2 < 8796093022208 →
    Ev (fun k => wire_Feed.l0 k b acc) (if e = 0 then acc ++ l else [], h, e) := by
  induction p with
  | stop b hc =>
    intro hb hl acc ha
    have hr := hd_range hb
    rw [if_pos rfl, List.append_nil]
    refine Ev.step (f := fun _ => some (acc, b, 0)) (fun k => ?_) (Ev.now _)
    simp only [wire_Feed.l0, Option.bind_some, List.length_nil, List.nil_append]
    by_cases h2 : b.length < 2
    · rw [if_neg (by omega), if_pos (by omega)]
    · rw [if_pos (by omega), if_pos (by omega), if_pos (by omega), rd_hd hb, if_neg (by omega), w64 _ (by omega), if_pos (by omega), if_pos (by omega)]
  | bad b h2 h3 =>
    intro hb hl acc ha
    rw [if_neg (by decide)]
    refine Ev.step (f := fun _ => some (([], [], 1) : List ByteArray × List Int × Int)) (fun k => ?_) (Ev.now _)
    simp only [wire_Feed.l0]
    rw [if_pos (by omega), if_pos (by omega), if_pos (by omega), rd_hd hb, if_pos (by omega)]
  | step b l h e h2 h3 h4 p ih =>
    intro hb hl acc ha
    have hr := hd_range hb
    have hd' : (b.drop (2 + hd b).toNat).length = b.length - (2 + hd b).toNat := List.length_drop
    have hi := ih (hb.drop _) (by omega) (acc ++ [strOfNums ((b.take (2 + hd b).toNat).drop 2)]) (by rw [List.length_append, List.length_singleton]; omega)
    have he : (if e = 0 then acc ++ [strOfNums ((b.take (2 + hd b).toNat).drop 2)] ++ l else []) = (if e = 0 then acc ++ (if e = 0 then strOfNums ((b.take (2 + hd b).toNat).drop 2) :: l else []) else []) := by
      by_cases h0 : e = 0
      · rw [if_pos h0, if_pos h0, if_pos h0, List.append_assoc, List.singleton_append]
      · rw [if_neg h0, if_neg h0]
    rw [he] at hi
    refine Ev.step (fun k => ?_) hi
    simp only [wire_Feed.l0]
    rw [if_pos (by omega), if_pos (by omega), if_pos (by omega), rd_hd hb, if_neg (by omega), w64 _ (by omega), if_neg (by omega), if_pos (by omega), if_pos (by omega), if_pos (by omega), if_pos (by omega)]
theorem Feed_ev (x y : List Int) (hx : x.length ≤ 301) (hb : Bytes (x ++ y)) (hl : (x ++ y).length < 17592186044416) {l : List ByteArray} {h : List Int} {e : Int} (p : Prs (x ++ y) l h e) : Ev (fun k => wire_Feed.f k x y) (l, h, e) := by
  have hlen : (x ++ y).length = x.length + y.length := List.length_append
  have h1 := feed_loop p hb (by omega) [] (by simp only [List.length_nil]; omega)
  have h2 : (if e = 0 then [] ++ l else []) = l := by
    rcases prs_err p with rfl | ⟨rfl, rfl, rfl⟩ <;> rfl
  rw [h2] at h1
  refine Ev.congr (fun k => ?_) h1
  simp only [wire_Feed.f, Option.bind_some, List.length_nil, List.nil_append]
  rw [if_neg (by omega), if_pos (by omega), if_pos (by omega)]
/-! ### texts as bytes -/
def wl (s : ByteArray) : List Int := (s.size : Int) / 256 % 256 :: (s.size : Int) % 256 :: bytesOf s
def pk : List ByteArray → List Int
  | [] => []
  | s :: r => wl s ++ pk r
theorem wl_len (s : ByteArray) : (wl s).length = 2 + s.size := by
  simp only [wl, List.length_cons, bytesOf_length]
  omega
theorem bytes_of (s : ByteArray) : Bytes (bytesOf s) := by
  intro x hx
  simp only [bytesOf, List.mem_map] at hx
  obtain ⟨u, _, rfl⟩ := hx
  have := UInt8.toNat_lt u
  omega
theorem bytes_pk : ∀ l : List ByteArray, Bytes (pk l)
  | [], x, hx => by simp [pk] at hx
  | s :: r, x, hx => by
    simp only [pk, wl, List.cons_append, List.mem_cons, List.mem_append] at hx
    rcases hx with rfl | rfl | hx | hx
    · omega
    · omega
    · exact bytes_of s x hx
    · exact bytes_pk r x hx
theorem str_bytes (s : ByteArray) : strOfNums (bytesOf s) = s := by
  unfold strOfNums bytesOf
  rw [List.map_map]
  have : ((fun n : Int => UInt8.ofNat n.toNat) ∘ fun b : UInt8 => (b.toNat : Int)) = id := by
    funext u
    simp
  rw [this, List.map_id]
theorem prs_pk : ∀ l : List ByteArray, (∀ s ∈ l, s.size ≤ 300) → Prs (pk l) l [] 0
  | [], _ => Prs.stop [] (.inl (by simp))
  | s :: r, hs => by
    have h0 : s.size ≤ 300 := hs s List.mem_cons_self
    have hh : hd (pk (s :: r)) = s.size := by
      show (s.size : Int) / 256 % 256 * 256 + (s.size : Int) % 256 = s.size
      omega
    have hl : (pk (s :: r)).length = 2 + s.size + (pk r).length := by
      show (wl s ++ pk r).length = _
      rw [List.length_append, wl_len]
    have hn : (2 + hd (pk (s :: r))).toNat = (wl s).length := by rw [hh, wl_len]; omega
    have hdr : (pk (s :: r)).drop (2 + hd (pk (s :: r))).toNat = pk r := by
      rw [hn]
      exact List.drop_left
    have htk : ((pk (s :: r)).take (2 + hd (pk (s :: r))).toNat).drop 2 = bytesOf s := by
      rw [hn]
      show ((wl s ++ pk r).take _).drop 2 = _
      rw [List.take_left]
      rfl
    have h := Prs.step (pk (s :: r)) r [] 0 (by omega) (by omega) (by omega) (by rw [hdr]; exact prs_pk r (fun x hx => hs x (List.mem_cons_of_mem _ hx)))
    rw [if_pos rfl, htk, str_bytes] at h
    exact h
theorem rdS_at {l : List ByteArray} {i : Nat} (h : i < l.length) : rdOf ByteArray.empty l (i : Int) = l[i] := by
  unfold rdOf
  simp [List.getD_eq_getElem?_getD, List.getElem?_eq_getElem h]
theorem Pack_ev (l : List ByteArray) (hl : l.length ≤ 40) (hs : ∀ s ∈ l, s.size ≤ 300) : Ev (fun k => wire_Pack.f k l) (pk l, 0) := by
  have loop : ∀ (d i : Nat) (out : List Int), i + d = l.length → out.length ≤ i * 302 → Ev (fun k => wire_Pack.l0 k out l (l.length : Int) (i : Int)) (out ++ pk (l.drop i), 0) := by
    intro d
    induction d with
    | zero =>
      intro i out hi ho
      rw [List.drop_of_length_le (by omega)]
      refine Ev.step (f := fun _ => some (out ++ [], 0)) (fun k => ?_) (Ev.now _)
      simp only [wire_Pack.l0]
      rw [if_neg (by omega), List.append_nil]
    | succ d ih =>
      intro i out hi ho
      have hlt : i < l.length := by omega
      have hw : wrap64 ((i : Int) + 1) = ((i + 1 : Nat) : Int) := by rw [w64 _ (by omega)]; omega
      have hz := hs l[i] (List.getElem_mem hlt)
      have hn := ih (i + 1) (out ++ wl l[i]) (by omega) (by rw [List.length_append, wl_len]; omega)
      rw [List.drop_eq_getElem_cons hlt]
      have he : out ++ wl l[i] ++ pk (l.drop (i + 1)) = out ++ pk (l[i] :: l.drop (i + 1)) := List.append_assoc _ _ _
      rw [he] at hn
      refine Ev.step (fun k => ?_) hn
      simp only [wire_Pack.l0, Option.bind_some]
      rw [if_pos (by omega), if_pos (by omega), if_pos (by omega), rdS_at hlt, if_neg (by omega), if_pos (by simp only [List.length_cons, List.length_nil]; omega), if_pos (by simp only [List.length_append, List.length_cons, List.length_nil]; omega), hw]
      congr 1
      rw [List.append_assoc]
      rfl
  have h := loop l.length 0 [] (by omega) (by simp)
  refine Ev.congr (fun k => ?_) h
  simp only [wire_Pack.f]
  rw [if_neg (by omega)]
  rfl
theorem pk_len : ∀ (l : List ByteArray), (∀ s ∈ l, s.size ≤ 300) → (pk l).length ≤ 302 * l.length
  | [], _ => by simp [pk]
  | s :: r, h => by
    have h1 := h s List.mem_cons_self
    have h2 := pk_len r (fun x hx => h x (List.mem_cons_of_mem _ hx))
    simp only [pk, List.length_append, wl_len, List.length_cons]
    omega
theorem wires_ev : Ev (fun k => chirographkeep_wireTells.f k) true := by
  refine Ev.bind (Pack_ev [(⟨#[120]⟩ : ByteArray)] (by simp) (by intro s hs; rw [List.mem_singleton] at hs; subst hs; decide)) ?_
  refine Ev.bind (Feed_ev [] (pk [(⟨#[120]⟩ : ByteArray)]) (by simp) (bytes_pk _) (by decide) (prs_pk _ (by intro s hs; rw [List.mem_singleton] at hs; subst hs; decide))) ?_
  exact Ev.now true
theorem sameT_ev (l : List ByteArray) (hl : l.length < 9223372036854775807) : Ev (fun k => chirographkeep_sameTexts.f k l l) true := by
  have loop : ∀ (d i : Nat), i + d = l.length → Ev (fun k => chirographkeep_sameTexts.l0 k l l (l.length : Int) (i : Int)) true := by
    intro d
    induction d with
    | zero =>
      intro i hi
      refine Ev.step (f := fun _ => some true) (fun k => ?_) (Ev.now _)
      simp only [chirographkeep_sameTexts.l0]
      rw [if_neg (by omega)]
    | succ d ih =>
      intro i hi
      have hw : wrap64 ((i : Int) + 1) = ((i + 1 : Nat) : Int) := by rw [w64 _ (by omega)]; omega
      refine Ev.step (fun k => ?_) (ih (i + 1) (by omega))
      simp only [chirographkeep_sameTexts.l0]
      rw [if_pos (by omega), if_pos (by omega), if_pos (by omega), if_pos (by omega), hw, if_pos trivial]
  refine Ev.congr (fun k => ?_) (loop l.length 0 (by omega))
  simp only [chirographkeep_sameTexts.f]
  rw [if_pos trivial]
  rfl

theorem rdR_at {l : List S79} {i : Nat} (h : i < l.length) : rd_T79 l (i : Int) = l[i] := by
  unfold rd_T79
  simp [List.getD_eq_getElem?_getD, List.getElem?_eq_getElem h]
theorem some_ev (l : List S79) (n : Nat) : chirographkeep_some.f l (n : Int) = some (l.take n) := by
  unfold chirographkeep_some.f mn
  split
  · rw [if_pos (by omega), if_pos (by omega), Int.toNat_natCast]
  · rw [if_pos (by omega), if_pos (by omega), Int.toNat_natCast, List.take_of_length_le (by omega), List.take_of_length_le (by omega)]
def tx (r : S79) : ByteArray := r.f3.extract 0 ((mn (r.f3.size : Int) 50) : Int).toNat
theorem mn_range (s : Nat) : 0 ≤ mn (s : Int) 50 ∧ mn (s : Int) 50 ≤ (s : Int) ∧ mn (s : Int) 50 ≤ 50 := by
  unfold mn
  split <;> omega
theorem tx_size (r : S79) : (tx r).size ≤ 300 := by
  have := mn_range r.f3.size
  unfold tx
  rw [ByteArray.size_extract]
  omega
theorem texts_ev (l : List S79) : Ev (fun k => chirographkeep_textsOf.f k l) ((l.take 10).map tx) := by
  have loop : ∀ (t : List S79), t.length ≤ 10 → ∀ (d i : Nat) (out : List ByteArray), i + d = t.length → out.length ≤ i → Ev (fun k => chirographkeep_textsOf.l0 k out t (t.length : Int) (i : Int)) (out ++ (t.drop i).map tx) := by
    intro t ht d
    induction d with
    | zero =>
      intro i out hi ho
      rw [List.drop_of_length_le (by omega)]
      refine Ev.step (f := fun _ => some (out ++ [])) (fun k => ?_) (Ev.now _)
      simp only [chirographkeep_textsOf.l0]
      rw [if_neg (by omega), List.append_nil]
    | succ d ih =>
      intro i out hi ho
      have hlt : i < t.length := by omega
      have hw : wrap64 ((i : Int) + 1) = ((i + 1 : Nat) : Int) := by rw [w64 _ (by omega)]; omega
      have hr := mn_range t[i].f3.size
      have hn := ih (i + 1) (out ++ [tx t[i]]) (by omega) (by rw [List.length_append, List.length_singleton]; omega)
      rw [List.append_assoc, List.singleton_append, ← List.map_cons, ← List.drop_eq_getElem_cons hlt] at hn
      refine Ev.step (fun k => ?_) hn
      simp only [chirographkeep_textsOf.l0]
      rw [if_pos (by omega), if_pos (by omega), if_pos (by omega), rdR_at hlt, if_pos hr.1, if_pos hr.2.1, if_pos (by omega), hw]
      rfl
  have h := loop (l.take 10) (by rw [List.length_take]; omega) (l.take 10).length 0 [] (by omega) (by simp)
  refine Ev.congr (fun k => ?_) h
  simp only [chirographkeep_textsOf.f]
  rw [show (10 : Int) = ((10 : Nat) : Int) from rfl, some_ev, Option.bind_some]
  rfl
theorem WireBack : chirographkeep_WireBack.Pure := by
  intro l
  intros
  apply Ev.rounds
  refine Ev.bind (texts_ev l) ?_
  have hl : ((l.take 10).map tx).length ≤ 10 := by rw [List.length_map, List.length_take]; omega
  have hs : ∀ s ∈ (l.take 10).map tx, s.size ≤ 300 := by
    intro s hs
    obtain ⟨r, _, rfl⟩ := List.mem_map.1 hs
    exact tx_size r
  generalize (l.take 10).map tx = t at hl hs ⊢
  refine Ev.bind (Pack_ev t (by omega) hs) ?_
  have hk := pk_len t hs
  refine Ev.bind (Feed_ev [] (pk t) (by simp) (bytes_pk t) (by rw [List.nil_append]; omega) (prs_pk t hs)) ?_
  refine Ev.bind wires_ev ?_
  simp only [if_true, List.length_nil]
  exact Ev.bind (sameT_ev t (by omega)) (Ev.now _)

end Go.Proofs.Ytgkfmaiepjjgkaa.Pure
