/- Tapes: how many bytes are good, and which. Conditions: none. -/
import Derived.Test.YtalcpfpjkfpmbaaTapeB
namespace Go.Proofs.Ytalcpfpjkfpmbaa.Vm
open Go Go.RowKit
set_option linter.unusedVariables false
set_option linter.unusedSimpArgs false
attribute [local irreducible] Ops Dr Run
/-- The head of a tape of so many bytes. -/
def hsec (n : Nat) : List Int := [0, 0, 0, 0, 0, (n : Int) / 65536 % 256, (n : Int) / 256 % 256, (n : Int) % 256] ++ List.replicate 24 0
theorem hsec_len (n : Nat) : (hsec n).length = 32 := rfl
theorem hsec_zero {n : Nat} {j : Nat} (hj : j < 32) (h5 : j ≠ 5) (h6 : j ≠ 6) (h7 : j ≠ 7) : (hsec n)[j]? = some 0 := by
  have : j = 0 ∨ j = 1 ∨ j = 2 ∨ j = 3 ∨ j = 4 ∨ 8 ≤ j := by omega
  rcases this with rfl | rfl | rfl | rfl | rfl | h8
  · rfl
  · rfl
  · rfl
  · rfl
  · rfl
  · unfold hsec
    rw [List.getElem?_append_right (by simpa using h8), List.getElem?_replicate, if_pos (by simp; omega)]
/-- A tape: what lasts, and the bytes that are good. -/
structure TG (Ls : List (List Int)) (bs : List Int) : Prop where
  l1 : 1 ≤ Ls.length
  l4 : Ls.length ≤ 400
  s : ∀ S ∈ Ls, S.length = 32
  hd : Ls.getD 0 [] = hsec bs.length
  fit : bs.length ≤ (Ls.length - 1) * 32
  at' : ∀ p, p < bs.length → (Ls.getD (1 + p / 32) [])[p % 32]? = bs[p]?
theorem TG.dok {Ls : List (List Int)} {bs : List Int} (h : TG Ls bs) : DOk Ls [] := ⟨h.l1, h.l4, h.s, by simp, fun w hw => by simp at hw⟩
/-- So many sectors behind the head. -/
def catS (Ls : List (List Int)) : Nat → List Int
  | 0 => []
  | j + 1 => catS Ls j ++ Ls.getD (1 + j) []
theorem getD_len {Ls : List (List Int)} (hs : ∀ S ∈ Ls, S.length = 32) {i : Nat} (hi : i < Ls.length) : (Ls.getD i []).length = 32 := by
  rw [List.getD_eq_getElem?_getD, List.getElem?_eq_getElem hi]
  exact hs _ (List.getElem_mem hi)
theorem catS_len {Ls : List (List Int)} (hs : ∀ S ∈ Ls, S.length = 32) : ∀ j, 1 + j ≤ Ls.length → (catS Ls j).length = 32 * j
  | 0, _ => rfl
  | j + 1, h => by
    rw [catS, List.length_append, catS_len hs j (by omega), getD_len hs (by omega)]
    omega
theorem catS_at {Ls : List (List Int)} (hs : ∀ S ∈ Ls, S.length = 32) : ∀ j, 1 + j ≤ Ls.length → ∀ p, p < 32 * j → (catS Ls j)[p]? = (Ls.getD (1 + p / 32) [])[p % 32]?
  | 0, _, p, hp => by omega
  | j + 1, h, p, hp => by
    have hl := catS_len hs j (by omega)
    rw [catS]
    by_cases hc : p < 32 * j
    · rw [List.getElem?_append_left (by omega)]
      exact catS_at hs j (by omega) p hc
    · rw [List.getElem?_append_right (by omega), hl]
      have e1 : p / 32 = j := by omega
      have e2 : p - 32 * j = p % 32 := by omega
      rw [e1, e2]
theorem TG.cat {Ls : List (List Int)} {bs : List Int} (h : TG Ls bs) {j : Nat} (hj : 1 + j ≤ Ls.length) (hb : bs.length ≤ 32 * j) : (catS Ls j).take bs.length = bs := by
  refine List.ext_getElem? fun p => ?_
  rw [List.getElem?_take]
  by_cases hp : p < bs.length
  · rw [if_pos hp, catS_at h.s j hj p (by omega), h.at' p hp]
  · rw [if_neg hp, List.getElem?_eq_none (by omega)]
variable {g : Nat → Option (List PV)}
theorem fnHead {Ls : List (List Int)} {bs : List Int} (h : TG Ls bs) : FnC (En Try.prog g) 23 [dskA Ls []] (.tup [.pv (.int .i64 bs.length), .pv (.int .i64 0)]) [] := by
  have hE := EnOk g
  have c1 := fnDRead (g := g) h.dok (i := 0) (by have := h.l1; omega)
  rw [show rdS Ls 0 [] ([] : List Pt).length = Ls.getD 0 [] from rfl, h.hd] at c1
  obtain ⟨l1, l4, hs, hd, fit, _⟩ := h
  have hn : bs.length < 16777216 := by omega
  have hnum : numP [(bs.length : Int) / 65536 % 256, (bs.length : Int) / 256 % 256, (bs.length : Int) % 256] = bs.length := by
    unfold numP
    simp only [List.foldl_cons, List.foldl_nil]
    omega
  have c2 := fnNumber (g := g) (b := [(bs.length : Int) / 65536 % 256, (bs.length : Int) / 256 % 256, (bs.length : Int) % 256]) (fun z hz => by
    simp only [List.mem_cons, List.mem_nil_iff, or_false] at hz
    rcases hz with rfl | rfl | rfl <;> omega) (by simp)
  rw [hnum] at c2
  have hys : (((hsec bs.length).map (PV.int .u8)).take (8 : Int).toNat).drop (5 : Int).toNat = [(bs.length : Int) / 65536 % 256, (bs.length : Int) / 256 % 256, (bs.length : Int) % 256].map (PV.int .u8) := rfl
  have hz := fun (j : Nat) (hj : j < 32) (h5 : j ≠ 5) (h6 : j ≠ 6) (h7 : j ≠ 7) => hsec_zero (n := bs.length) hj h5 h6 h7
  have hlen := hsec_len bs.length
  generalize hsec bs.length = S at *
  refine FnC.of Try.func23 rfl rfl rfl rfl ?_
  repeat (first | refine Run.seq ?_ | refine Run.skip ?_ | refine Run.block ?_)
  refine Run.region ?_
  refine O.box 1 rfl (by first | rfl | exact cells_ones (by simp [ones_app, ones_ints, ones, AV.one, PV.one])) rfl rfl ?_
  refine O.assign rfl rfl ?_
  refine O.assign rfl rfl ?_
  refine O.nil ?_
  try refine Run.keep [0, 1, 2, 3, 4, 5, 6, 7, 8, 15, 17, 18, 19, 35, 45] rfl rfl ?_
  repeat (first | refine Run.seq ?_ | refine Run.skip ?_ | refine Run.block ?_)
  refine Run.region ?_
  refine O.load hE T26 rfl rfl rfl rfl ?_
  refine O.callE c1 rfl rfl (by simp only [d2, ds1, d1, ds0_pvs, Bool.and_self]) rfl ?_
  refine O.move rfl rfl ?_
  refine O.extract rfl rfl rfl ?_
  refine O.extract rfl rfl rfl ?_
  first | refine O.allocS hE 4 T64 ints_zero rfl rfl ?_ | refine O.alloc hE 4 T64 rfl rfl rfl ?_
  refine O.storeS hE T64 rfl rfl (cells_cel S) rfl (by simp [hlen]) (by simp [ints_len, hlen]) (setAt_all _ _ (by simp [ints_len, hlen])) ?_
  refine O.assign rfl rfl ?_
  refine O.nil ?_
  try refine Run.keep [0, 1, 2, 3, 4, 5, 6, 7, 8, 15, 17, 18, 19, 35, 45] rfl rfl ?_
  repeat (first | refine Run.seq ?_ | refine Run.skip ?_ | refine Run.block ?_)
  refine Run.region ?_
  refine O.move rfl rfl ?_
  first | refine O.cmp rfl rfl rfl (by first | exact decide_eq_true (by omega) | exact decide_eq_false (by omega)) rfl ?_ | refine O.cmp rfl rfl rfl rfl rfl ?_
  refine O.nil ?_
  try refine Run.keep [0, 1, 2, 3, 4, 5, 6, 7, 8, 15, 17, 18, 19, 35, 45] rfl rfl ?_
  repeat (first | refine Run.seq ?_ | refine Run.skip ?_)
  first | refine Run.condT rfl rfl ?_ | refine Run.condF rfl rfl ?_ | refine Run.condT rfl (by assumption) ?_ | refine Run.condF rfl (by assumption) ?_
  repeat (first | refine Run.seq ?_ | refine Run.skip ?_ | refine Run.block ?_)
  refine Run.region ?_
  refine O.loadA (q := cel S) hE T64 rfl rfl rfl (show List.take 32 (cel S) = cel S from List.take_of_length_le (by simp [hlen])) (by simp [hlen]) rfl ?_
  refine O.move rfl rfl ?_
  refine O.nil ?_
  try refine Run.keep [0, 1, 2, 3, 4, 5, 6, 7, 8, 15, 17, 18, 19, 35, 45] rfl rfl ?_
  repeat (first | refine Run.seq ?_ | refine Run.skip ?_)
  refine Run.block ?_
  refine Run.loopInv (ι := Nat) (fun j => j ≤ 32) (fun j => ⟨47, [(1, .ptr 1 0), (4, .ptr 4 0), (17, .agg (cel S)), (18, .pv (.int .i64 (j : Int)))], [(4, .var (cel S)), (1, .var [.pv (.lst 32 (Ls.map secE)), .pv (.lst 33 ([].map putE))])]⟩) (fun j => 32 - j) 0 (Nat.zero_le _) ?_ ?_
  ·
    exact SLe.drop (by repeat (first | exact TmIn.nil | refine TmIn.cons rfl ?_)) (by repeat (first | exact BxIn.nil | refine BxIn.cons rfl ?_)) (by simp only [mtm, men3, mens2_pvs, Bool.and_self]; rfl) (by simp only [mbx, menB, mens2, men2, men1, mens2_pvs, mens2_ints, Bool.and_self])
  rintro j hj ih
  by_cases hlt : j < 32
  ·
    obtain ⟨c, hc⟩ : ∃ c, S[j]? = some c := ⟨_, List.getElem?_eq_getElem (by omega)⟩
    have hc2 : S[(j : Int).toNat]? = some c := hc
    by_cases h6 : j = 6
    ·
      repeat (first | refine Run.seq ?_ | refine Run.skip ?_ | refine Run.block ?_)
      refine Run.region ?_
      first | refine O.cmp rfl rfl rfl (by first | exact decide_eq_true (by omega) | exact decide_eq_false (by omega)) rfl ?_ | refine O.cmp rfl rfl rfl rfl rfl ?_
      refine O.nil ?_
      try refine Run.keep [0, 1, 2, 3, 4, 5, 6, 7, 8, 15, 17, 18, 19, 35, 45] rfl rfl ?_
      repeat (first | refine Run.seq ?_ | refine Run.skip ?_)
      first | refine Run.condT rfl rfl ?_ | refine Run.condF rfl rfl ?_ | refine Run.condT rfl (by assumption) ?_ | refine Run.condF rfl (by assumption) ?_
      repeat (first | refine Run.seq ?_ | refine Run.skip ?_ | refine Run.block ?_)
      refine Run.region ?_
      refine O.move rfl rfl ?_
      refine O.ixVal hE T64 rfl T5 rfl rfl rfl hlen rfl (by omega) hc2 rfl ?_
      refine O.assign rfl rfl ?_
      refine O.assign rfl rfl ?_
      refine O.nil ?_
      try refine Run.keep [0, 1, 2, 3, 4, 5, 6, 7, 8, 15, 17, 18, 19, 35, 45] rfl rfl ?_
      repeat (first | refine Run.seq ?_ | refine Run.skip ?_ | refine Run.block ?_)
      refine Run.region ?_
      refine O.move rfl rfl ?_
      first | refine O.cmp rfl rfl rfl (by first | exact decide_eq_true (by omega) | exact decide_eq_false (by omega)) rfl ?_ | refine O.cmp rfl rfl rfl rfl rfl ?_
      refine O.move rfl rfl ?_
      first | (refine O.yes rfl rfl (by first | rfl | assumption) ?_; refine O.move rfl rfl ?_) | refine O.no rfl rfl rfl rfl ?_
      first | (refine O.yes rfl rfl (by first | rfl | assumption) ?_; first | refine O.cmp rfl rfl rfl (by first | exact decide_eq_true (by omega) | exact decide_eq_false (by omega)) rfl ?_ | refine O.cmp rfl rfl rfl rfl rfl ?_) | refine O.no rfl rfl rfl rfl ?_
      refine O.pick rfl rfl rfl rfl rfl ?_
      refine O.move rfl rfl ?_
      first | (refine O.yes rfl rfl (by first | rfl | assumption) ?_; refine O.move rfl rfl ?_) | refine O.no rfl rfl rfl rfl ?_
      first | (refine O.yes rfl rfl (by first | rfl | assumption) ?_; first | refine O.cmp rfl rfl rfl (by first | exact decide_eq_true (by omega) | exact decide_eq_false (by omega)) rfl ?_ | refine O.cmp rfl rfl rfl rfl rfl ?_) | refine O.no rfl rfl rfl rfl ?_
      refine O.pick rfl rfl rfl rfl rfl ?_
      refine O.move rfl rfl ?_
      first | (refine O.yes rfl rfl (by first | rfl | assumption) ?_; refine O.move rfl rfl ?_) | refine O.no rfl rfl rfl rfl ?_
      first | (refine O.yes rfl rfl (by first | rfl | assumption) ?_; first | refine O.cmp rfl rfl rfl (by first | exact decide_eq_true (by omega) | exact decide_eq_false (by omega)) rfl ?_ | refine O.cmp rfl rfl rfl rfl rfl ?_) | refine O.no rfl rfl rfl rfl ?_
      refine O.pick rfl rfl rfl rfl rfl ?_
      refine O.nil ?_
      try refine Run.keep [0, 1, 2, 3, 4, 5, 6, 7, 8, 15, 17, 18, 19, 35, 45] rfl rfl ?_
      repeat (first | refine Run.seq ?_ | refine Run.skip ?_)
      first | refine Run.condT rfl rfl ?_ | refine Run.condF rfl rfl ?_ | refine Run.condT rfl (by assumption) ?_ | refine Run.condF rfl (by assumption) ?_
      repeat (first | refine Run.seq ?_ | refine Run.skip ?_ | refine Run.block ?_)
      refine Run.region ?_
      first | refine O.ar rfl rfl rfl (by exact wrap_i64 (by omega) (by omega)) rfl ?_ | refine O.ar rfl rfl rfl rfl rfl ?_
      refine O.move rfl rfl ?_
      refine O.nil ?_
      try refine Run.keep [0, 1, 2, 3, 4, 5, 6, 7, 8, 15, 17, 18, 19, 35, 45] rfl rfl ?_
      refine ih (j + 1) _ ?_ (by omega) (by omega)
      exact SLe.drop (by repeat (first | exact TmIn.nil | refine TmIn.cons rfl ?_)) (by repeat (first | exact BxIn.nil | refine BxIn.cons rfl ?_)) (by simp only [mtm, men3, mens2_pvs, Bool.and_self]; rfl) (by simp only [mbx, menB, mens2, men2, men1, mens2_pvs, mens2_ints, Bool.and_self])
    by_cases h7 : j = 7
    ·
      repeat (first | refine Run.seq ?_ | refine Run.skip ?_ | refine Run.block ?_)
      refine Run.region ?_
      first | refine O.cmp rfl rfl rfl (by first | exact decide_eq_true (by omega) | exact decide_eq_false (by omega)) rfl ?_ | refine O.cmp rfl rfl rfl rfl rfl ?_
      refine O.nil ?_
      try refine Run.keep [0, 1, 2, 3, 4, 5, 6, 7, 8, 15, 17, 18, 19, 35, 45] rfl rfl ?_
      repeat (first | refine Run.seq ?_ | refine Run.skip ?_)
      first | refine Run.condT rfl rfl ?_ | refine Run.condF rfl rfl ?_ | refine Run.condT rfl (by assumption) ?_ | refine Run.condF rfl (by assumption) ?_
      repeat (first | refine Run.seq ?_ | refine Run.skip ?_ | refine Run.block ?_)
      refine Run.region ?_
      refine O.move rfl rfl ?_
      refine O.ixVal hE T64 rfl T5 rfl rfl rfl hlen rfl (by omega) hc2 rfl ?_
      refine O.assign rfl rfl ?_
      refine O.assign rfl rfl ?_
      refine O.nil ?_
      try refine Run.keep [0, 1, 2, 3, 4, 5, 6, 7, 8, 15, 17, 18, 19, 35, 45] rfl rfl ?_
      repeat (first | refine Run.seq ?_ | refine Run.skip ?_ | refine Run.block ?_)
      refine Run.region ?_
      refine O.move rfl rfl ?_
      first | refine O.cmp rfl rfl rfl (by first | exact decide_eq_true (by omega) | exact decide_eq_false (by omega)) rfl ?_ | refine O.cmp rfl rfl rfl rfl rfl ?_
      refine O.move rfl rfl ?_
      first | (refine O.yes rfl rfl (by first | rfl | assumption) ?_; refine O.move rfl rfl ?_) | refine O.no rfl rfl rfl rfl ?_
      first | (refine O.yes rfl rfl (by first | rfl | assumption) ?_; first | refine O.cmp rfl rfl rfl (by first | exact decide_eq_true (by omega) | exact decide_eq_false (by omega)) rfl ?_ | refine O.cmp rfl rfl rfl rfl rfl ?_) | refine O.no rfl rfl rfl rfl ?_
      refine O.pick rfl rfl rfl rfl rfl ?_
      refine O.move rfl rfl ?_
      first | (refine O.yes rfl rfl (by first | rfl | assumption) ?_; refine O.move rfl rfl ?_) | refine O.no rfl rfl rfl rfl ?_
      first | (refine O.yes rfl rfl (by first | rfl | assumption) ?_; first | refine O.cmp rfl rfl rfl (by first | exact decide_eq_true (by omega) | exact decide_eq_false (by omega)) rfl ?_ | refine O.cmp rfl rfl rfl rfl rfl ?_) | refine O.no rfl rfl rfl rfl ?_
      refine O.pick rfl rfl rfl rfl rfl ?_
      refine O.move rfl rfl ?_
      first | (refine O.yes rfl rfl (by first | rfl | assumption) ?_; refine O.move rfl rfl ?_) | refine O.no rfl rfl rfl rfl ?_
      first | (refine O.yes rfl rfl (by first | rfl | assumption) ?_; first | refine O.cmp rfl rfl rfl (by first | exact decide_eq_true (by omega) | exact decide_eq_false (by omega)) rfl ?_ | refine O.cmp rfl rfl rfl rfl rfl ?_) | refine O.no rfl rfl rfl rfl ?_
      refine O.pick rfl rfl rfl rfl rfl ?_
      refine O.nil ?_
      try refine Run.keep [0, 1, 2, 3, 4, 5, 6, 7, 8, 15, 17, 18, 19, 35, 45] rfl rfl ?_
      repeat (first | refine Run.seq ?_ | refine Run.skip ?_)
      first | refine Run.condT rfl rfl ?_ | refine Run.condF rfl rfl ?_ | refine Run.condT rfl (by assumption) ?_ | refine Run.condF rfl (by assumption) ?_
      repeat (first | refine Run.seq ?_ | refine Run.skip ?_ | refine Run.block ?_)
      refine Run.region ?_
      first | refine O.ar rfl rfl rfl (by exact wrap_i64 (by omega) (by omega)) rfl ?_ | refine O.ar rfl rfl rfl rfl rfl ?_
      refine O.move rfl rfl ?_
      refine O.nil ?_
      try refine Run.keep [0, 1, 2, 3, 4, 5, 6, 7, 8, 15, 17, 18, 19, 35, 45] rfl rfl ?_
      refine ih (j + 1) _ ?_ (by omega) (by omega)
      exact SLe.drop (by repeat (first | exact TmIn.nil | refine TmIn.cons rfl ?_)) (by repeat (first | exact BxIn.nil | refine BxIn.cons rfl ?_)) (by simp only [mtm, men3, mens2_pvs, Bool.and_self]; rfl) (by simp only [mbx, menB, mens2, men2, men1, mens2_pvs, mens2_ints, Bool.and_self])
    by_cases h5 : j = 5
    ·
      repeat (first | refine Run.seq ?_ | refine Run.skip ?_ | refine Run.block ?_)
      refine Run.region ?_
      first | refine O.cmp rfl rfl rfl (by first | exact decide_eq_true (by omega) | exact decide_eq_false (by omega)) rfl ?_ | refine O.cmp rfl rfl rfl rfl rfl ?_
      refine O.nil ?_
      try refine Run.keep [0, 1, 2, 3, 4, 5, 6, 7, 8, 15, 17, 18, 19, 35, 45] rfl rfl ?_
      repeat (first | refine Run.seq ?_ | refine Run.skip ?_)
      first | refine Run.condT rfl rfl ?_ | refine Run.condF rfl rfl ?_ | refine Run.condT rfl (by assumption) ?_ | refine Run.condF rfl (by assumption) ?_
      repeat (first | refine Run.seq ?_ | refine Run.skip ?_ | refine Run.block ?_)
      refine Run.region ?_
      refine O.move rfl rfl ?_
      refine O.ixVal hE T64 rfl T5 rfl rfl rfl hlen rfl (by omega) hc2 rfl ?_
      refine O.assign rfl rfl ?_
      refine O.assign rfl rfl ?_
      refine O.nil ?_
      try refine Run.keep [0, 1, 2, 3, 4, 5, 6, 7, 8, 15, 17, 18, 19, 35, 45] rfl rfl ?_
      repeat (first | refine Run.seq ?_ | refine Run.skip ?_ | refine Run.block ?_)
      refine Run.region ?_
      refine O.move rfl rfl ?_
      first | refine O.cmp rfl rfl rfl (by first | exact decide_eq_true (by omega) | exact decide_eq_false (by omega)) rfl ?_ | refine O.cmp rfl rfl rfl rfl rfl ?_
      refine O.move rfl rfl ?_
      first | (refine O.yes rfl rfl (by first | rfl | assumption) ?_; refine O.move rfl rfl ?_) | refine O.no rfl rfl rfl rfl ?_
      first | (refine O.yes rfl rfl (by first | rfl | assumption) ?_; first | refine O.cmp rfl rfl rfl (by first | exact decide_eq_true (by omega) | exact decide_eq_false (by omega)) rfl ?_ | refine O.cmp rfl rfl rfl rfl rfl ?_) | refine O.no rfl rfl rfl rfl ?_
      refine O.pick rfl rfl rfl rfl rfl ?_
      refine O.move rfl rfl ?_
      first | (refine O.yes rfl rfl (by first | rfl | assumption) ?_; refine O.move rfl rfl ?_) | refine O.no rfl rfl rfl rfl ?_
      first | (refine O.yes rfl rfl (by first | rfl | assumption) ?_; first | refine O.cmp rfl rfl rfl (by first | exact decide_eq_true (by omega) | exact decide_eq_false (by omega)) rfl ?_ | refine O.cmp rfl rfl rfl rfl rfl ?_) | refine O.no rfl rfl rfl rfl ?_
      refine O.pick rfl rfl rfl rfl rfl ?_
      refine O.move rfl rfl ?_
      first | (refine O.yes rfl rfl (by first | rfl | assumption) ?_; refine O.move rfl rfl ?_) | refine O.no rfl rfl rfl rfl ?_
      first | (refine O.yes rfl rfl (by first | rfl | assumption) ?_; first | refine O.cmp rfl rfl rfl (by first | exact decide_eq_true (by omega) | exact decide_eq_false (by omega)) rfl ?_ | refine O.cmp rfl rfl rfl rfl rfl ?_) | refine O.no rfl rfl rfl rfl ?_
      refine O.pick rfl rfl rfl rfl rfl ?_
      refine O.nil ?_
      try refine Run.keep [0, 1, 2, 3, 4, 5, 6, 7, 8, 15, 17, 18, 19, 35, 45] rfl rfl ?_
      repeat (first | refine Run.seq ?_ | refine Run.skip ?_)
      first | refine Run.condT rfl rfl ?_ | refine Run.condF rfl rfl ?_ | refine Run.condT rfl (by assumption) ?_ | refine Run.condF rfl (by assumption) ?_
      repeat (first | refine Run.seq ?_ | refine Run.skip ?_ | refine Run.block ?_)
      refine Run.region ?_
      first | refine O.ar rfl rfl rfl (by exact wrap_i64 (by omega) (by omega)) rfl ?_ | refine O.ar rfl rfl rfl rfl rfl ?_
      refine O.move rfl rfl ?_
      refine O.nil ?_
      try refine Run.keep [0, 1, 2, 3, 4, 5, 6, 7, 8, 15, 17, 18, 19, 35, 45] rfl rfl ?_
      refine ih (j + 1) _ ?_ (by omega) (by omega)
      exact SLe.drop (by repeat (first | exact TmIn.nil | refine TmIn.cons rfl ?_)) (by repeat (first | exact BxIn.nil | refine BxIn.cons rfl ?_)) (by simp only [mtm, men3, mens2_pvs, Bool.and_self]; rfl) (by simp only [mbx, menB, mens2, men2, men1, mens2_pvs, mens2_ints, Bool.and_self])
    have h0 := hz j hlt h5 h6 h7
    rw [hc] at h0
    obtain rfl := Option.some.inj h0
    repeat (first | refine Run.seq ?_ | refine Run.skip ?_ | refine Run.block ?_)
    refine Run.region ?_
    first | refine O.cmp rfl rfl rfl (by first | exact decide_eq_true (by omega) | exact decide_eq_false (by omega)) rfl ?_ | refine O.cmp rfl rfl rfl rfl rfl ?_
    refine O.nil ?_
    try refine Run.keep [0, 1, 2, 3, 4, 5, 6, 7, 8, 15, 17, 18, 19, 35, 45] rfl rfl ?_
    repeat (first | refine Run.seq ?_ | refine Run.skip ?_)
    first | refine Run.condT rfl rfl ?_ | refine Run.condF rfl rfl ?_ | refine Run.condT rfl (by assumption) ?_ | refine Run.condF rfl (by assumption) ?_
    repeat (first | refine Run.seq ?_ | refine Run.skip ?_ | refine Run.block ?_)
    refine Run.region ?_
    refine O.move rfl rfl ?_
    refine O.ixVal hE T64 rfl T5 rfl rfl rfl hlen rfl (by omega) hc2 rfl ?_
    refine O.assign rfl rfl ?_
    refine O.assign rfl rfl ?_
    refine O.nil ?_
    try refine Run.keep [0, 1, 2, 3, 4, 5, 6, 7, 8, 15, 17, 18, 19, 35, 45] rfl rfl ?_
    repeat (first | refine Run.seq ?_ | refine Run.skip ?_ | refine Run.block ?_)
    refine Run.region ?_
    refine O.move rfl rfl ?_
    first | refine O.cmp rfl rfl rfl (by first | exact decide_eq_true (by omega) | exact decide_eq_false (by omega)) rfl ?_ | refine O.cmp rfl rfl rfl rfl rfl ?_
    refine O.move rfl rfl ?_
    first | (refine O.yes rfl rfl (by first | rfl | assumption) ?_; refine O.move rfl rfl ?_) | refine O.no rfl rfl rfl rfl ?_
    first | (refine O.yes rfl rfl (by first | rfl | assumption) ?_; first | refine O.cmp rfl rfl rfl (by first | exact decide_eq_true (by omega) | exact decide_eq_false (by omega)) rfl ?_ | refine O.cmp rfl rfl rfl rfl rfl ?_) | refine O.no rfl rfl rfl rfl ?_
    refine O.pick rfl rfl rfl rfl rfl ?_
    refine O.move rfl rfl ?_
    first | (refine O.yes rfl rfl (by first | rfl | assumption) ?_; refine O.move rfl rfl ?_) | refine O.no rfl rfl rfl rfl ?_
    first | (refine O.yes rfl rfl (by first | rfl | assumption) ?_; first | refine O.cmp rfl rfl rfl (by first | exact decide_eq_true (by omega) | exact decide_eq_false (by omega)) rfl ?_ | refine O.cmp rfl rfl rfl rfl rfl ?_) | refine O.no rfl rfl rfl rfl ?_
    refine O.pick rfl rfl rfl rfl rfl ?_
    refine O.move rfl rfl ?_
    first | (refine O.yes rfl rfl (by first | rfl | assumption) ?_; refine O.move rfl rfl ?_) | refine O.no rfl rfl rfl rfl ?_
    first | (refine O.yes rfl rfl (by first | rfl | assumption) ?_; first | refine O.cmp rfl rfl rfl (by first | exact decide_eq_true (by omega) | exact decide_eq_false (by omega)) rfl ?_ | refine O.cmp rfl rfl rfl rfl rfl ?_) | refine O.no rfl rfl rfl rfl ?_
    refine O.pick rfl rfl rfl rfl rfl ?_
    refine O.nil ?_
    try refine Run.keep [0, 1, 2, 3, 4, 5, 6, 7, 8, 15, 17, 18, 19, 35, 45] rfl rfl ?_
    repeat (first | refine Run.seq ?_ | refine Run.skip ?_)
    first | refine Run.condT rfl rfl ?_ | refine Run.condF rfl rfl ?_ | refine Run.condT rfl (by assumption) ?_ | refine Run.condF rfl (by assumption) ?_
    repeat (first | refine Run.seq ?_ | refine Run.skip ?_ | refine Run.block ?_)
    refine Run.region ?_
    first | refine O.ar rfl rfl rfl (by exact wrap_i64 (by omega) (by omega)) rfl ?_ | refine O.ar rfl rfl rfl rfl rfl ?_
    refine O.move rfl rfl ?_
    refine O.nil ?_
    try refine Run.keep [0, 1, 2, 3, 4, 5, 6, 7, 8, 15, 17, 18, 19, 35, 45] rfl rfl ?_
    refine ih (j + 1) _ ?_ (by omega) (by omega)
    exact SLe.drop (by repeat (first | exact TmIn.nil | refine TmIn.cons rfl ?_)) (by repeat (first | exact BxIn.nil | refine BxIn.cons rfl ?_)) (by simp only [mtm, men3, mens2_pvs, Bool.and_self]; rfl) (by simp only [mbx, menB, mens2, men2, men1, mens2_pvs, mens2_ints, Bool.and_self])
  obtain rfl : j = 32 := by omega
  repeat (first | refine Run.seq ?_ | refine Run.skip ?_ | refine Run.block ?_)
  refine Run.region ?_
  first | refine O.cmp rfl rfl rfl (by first | exact decide_eq_true (by omega) | exact decide_eq_false (by omega)) rfl ?_ | refine O.cmp rfl rfl rfl rfl rfl ?_
  refine O.nil ?_
  try refine Run.keep [0, 1, 2, 3, 4, 5, 6, 7, 8, 15, 17, 18, 19, 35, 45] rfl rfl ?_
  repeat (first | refine Run.seq ?_ | refine Run.skip ?_)
  first | refine Run.condT rfl rfl ?_ | refine Run.condF rfl rfl ?_ | refine Run.condT rfl (by assumption) ?_ | refine Run.condF rfl (by assumption) ?_
  refine Run.exit ?_
  repeat (first | refine thenR_exit ?_ | refine roundR_exit ?_ | refine blockR_exit ?_ | refine blockR_pass rfl ?_)
  refine Run.freeze (ps := S.map (PV.int .u8)) (tm' := [(1, .ptr 1 0), (4, .eptr (S.map (PV.int .u8)))]) (bx' := [(1, .var [.pv (.lst 32 (Ls.map secE)), .pv (.lst 33 ([].map putE))])]) 4 rfl (by repeat (first | exact TmFz.nil | refine TmFz.keep rfl ?_ | refine TmFz.fz rfl rfl ?_)) (by repeat (first | exact BxIn.nil | refine BxIn.cons rfl ?_)) rfl (by first | rfl | simp [mtm, men3, mens2_app, mens2_ints, mens2, men2, men1, has, look]) (by first | rfl | simp [mbx, menB, mens2_app, mens2_ints, mens2, men2, men1]) ?_
  have hlm : (((Ls.map secE).length : Nat) : Int) = Ls.length := by simp
  repeat (first | refine Run.seq ?_ | refine Run.skip ?_ | refine Run.block ?_)
  refine Run.region ?_
  refine O.sliceEB hE T64 rfl T5 rfl rfl hlen rfl rfl rfl (by omega) (by omega) (by omega) hys rfl ?_
  refine O.callE c2 rfl (by first | rfl | simp [closed, men3, mens2_app, mens2_ints, mens2, men2, men1, mens1_app, mens1_ints, mens1]) (by first | rfl | simp [d2, ds1_ints, ds1_app, ds1, d1, ds0_app, ds0_ints, ds0, d0]) rfl ?_
  refine O.assign rfl rfl ?_
  refine O.nil ?_
  try refine Run.keep [0, 1, 2, 3, 4, 5, 6, 7, 8, 15, 17, 18, 19, 35, 45] rfl rfl ?_
  repeat (first | refine Run.seq ?_ | refine Run.skip ?_ | refine Run.block ?_)
  refine Run.region ?_
  refine O.move rfl rfl ?_
  refine O.field hE L26 rfl rfl rfl rfl ?_
  first | refine O.loadS hE T23 rfl rfl rfl (by rfl) rfl ?_ | refine O.loadE hE T23 rfl rfl (by rfl) rfl ?_ | refine O.load hE T23 rfl rfl rfl rfl ?_
  refine O.lenN hE T23 rfl rfl rfl newest_pv hlm rfl ?_
  first | refine O.ar rfl rfl rfl (by exact wrap_i64 (by omega) (by omega)) rfl ?_ | refine O.ar rfl rfl rfl rfl rfl ?_
  first | refine O.ar rfl rfl rfl (by exact wrap_i64 (by omega) (by omega)) rfl ?_ | refine O.ar rfl rfl rfl rfl rfl ?_
  first | refine O.cmp rfl rfl rfl (by first | exact decide_eq_true (by omega) | exact decide_eq_false (by omega)) rfl ?_ | refine O.cmp rfl rfl rfl rfl rfl ?_
  refine O.nil ?_
  try refine Run.keep [0, 1, 2, 3, 4, 5, 6, 7, 8, 15, 17, 18, 19, 35, 45] rfl rfl ?_
  repeat (first | refine Run.seq ?_ | refine Run.skip ?_)
  first | refine Run.condT rfl rfl ?_ | refine Run.condF rfl rfl ?_ | refine Run.condT rfl (by assumption) ?_ | refine Run.condF rfl (by assumption) ?_
  repeat (first | refine Run.seq ?_ | refine Run.skip ?_ | refine Run.block ?_)
  refine Run.region ?_
  refine O.move rfl rfl ?_
  refine O.assign rfl rfl ?_
  refine O.assign rfl rfl ?_
  refine O.nil ?_
  try refine Run.keep [0, 1, 2, 3, 4, 5, 6, 7, 8, 15, 17, 18, 19, 35, 45] rfl rfl ?_
  (repeat (first | refine Run.seq ?_ | refine Run.skip ?_)); (try refine Run.ret ?_); first | exact Ends.flat hE (.inr rfl) rfl rfl (AVle.of_eq rfl) rfl | exact Ends.flat hE (.inl rfl) rfl rfl (AVle.of_eq rfl) rfl
end Go.Proofs.Ytalcpfpjkfpmbaa.Vm
