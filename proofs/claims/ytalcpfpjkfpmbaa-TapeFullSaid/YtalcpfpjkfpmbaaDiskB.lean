/- Disks: what is checked, read, written. Conditions: none. -/
import Derived.Test.YtalcpfpjkfpmbaaDiskA
namespace Go.Proofs.Ytalcpfpjkfpmbaa.Vm
open Go Go.RowKit
set_option linter.unusedVariables false
set_option linter.unusedSimpArgs false
attribute [local irreducible] Ops Dr Run
/-- A sector that was written. -/
structure Pt where
  pl : Int
  s : List Int
abbrev secE (S : List Int) : PV := .agg (S.map (PV.int .u8))
abbrev putE (w : Pt) : PV := .agg (PV.int .i64 w.pl :: w.s.map (PV.int .u8))
abbrev cel (S : List Int) : List AV := (S.map (PV.int .u8)).map AV.pv
abbrev dskA (Ls : List (List Int)) (Ws : List Pt) : AV := .agg [.pv (.lst 32 (Ls.map secE)), .pv (.lst 33 (Ws.map putE))]
/-- A disk that may be. -/
structure DOk (Ls : List (List Int)) (Ws : List Pt) : Prop where
  l1 : 1 ≤ Ls.length
  l4 : Ls.length ≤ 400
  s : ∀ S ∈ Ls, S.length = 32
  w6 : Ws.length ≤ 60
  w : ∀ w ∈ Ws, 0 ≤ w.pl ∧ w.pl < Ls.length ∧ w.s.length = 32
theorem cel_len (S : List Int) : (cel S).length = S.length := by simp
theorem ones_cel (S : List Int) : ones (cel S) = true := by
  have : cel S = ints .u8 S := by simp [ints]
  rw [this]; exact ones_ints S
theorem cells_cel (S : List Int) : (AV.agg (cel S)).cells? = some (cel S) := cells_ones (ones_cel S)
theorem cells_put (a : Int) (S : List Int) : (AV.agg (.pv (.int .i64 a) :: cel S)).cells? = some (.pv (.int .i64 a) :: cel S) := cells_ones (by simp only [ones, ones_cel]; rfl)
variable {g : Nat → Option (List PV)}
theorem fnDCheck {Ls : List (List Int)} {Ws : List Pt} (h : DOk Ls Ws) : FnC (En Try.prog g) 28 [dskA Ls Ws] (.pv (.int .i64 0)) [] := by
  have hE := EnOk g
  obtain ⟨l1, l4, hs, w6, hw⟩ := h
  refine FnC.of Try.func28 rfl rfl rfl rfl ?_
  repeat (first | refine Run.seq ?_ | refine Run.skip ?_ | refine Run.block ?_)
  refine Run.region ?_
  refine O.box 1 rfl (by first | rfl | exact cells_ones (by simp [ones_app, ones_ints, ones, AV.one, PV.one])) rfl rfl ?_
  refine O.assign rfl rfl ?_
  refine O.nil ?_
  try refine Run.keep [0, 1, 2, 4, 20, 22, 23, 24, 25, 38] rfl rfl ?_
  repeat (first | refine Run.seq ?_ | refine Run.skip ?_ | refine Run.block ?_)
  refine Run.region ?_
  refine O.field hE L26 rfl rfl rfl rfl ?_
  first | refine O.loadS hE T23 rfl rfl rfl (by rfl) rfl ?_ | refine O.loadE hE T23 rfl rfl (by rfl) rfl ?_ | refine O.load hE T23 rfl rfl rfl rfl ?_
  first | refine O.lenN hE T23 rfl rfl rfl (by first | exact newest_pv | exact newest_gl rfl rfl | trivial) lenC rfl ?_ | refine O.lenLst hE T23 rfl rfl rfl (by first | exact newest_pv | exact newest_gl rfl rfl | trivial) rfl ?_
  first | refine O.cmp rfl rfl rfl (by first | exact decide_eq_true (by omega) | exact decide_eq_false (by omega)) rfl ?_ | refine O.cmp rfl rfl rfl rfl rfl ?_
  refine O.move rfl rfl ?_
  first | (refine O.yes rfl rfl (by first | rfl | assumption) ?_; refine O.field hE L26 rfl rfl rfl rfl ?_) | refine O.no rfl rfl rfl rfl ?_
  first | (refine O.yes rfl rfl (by first | rfl | assumption) ?_; first | refine O.loadS hE T23 rfl rfl rfl (by rfl) rfl ?_ | refine O.loadE hE T23 rfl rfl (by rfl) rfl ?_ | refine O.load hE T23 rfl rfl rfl rfl ?_) | refine O.no rfl rfl rfl rfl ?_
  first | (refine O.yes rfl rfl (by first | rfl | assumption) ?_; first | refine O.lenN hE T23 rfl rfl rfl (by first | exact newest_pv | exact newest_gl rfl rfl | trivial) lenC rfl ?_ | refine O.lenLst hE T23 rfl rfl rfl (by first | exact newest_pv | exact newest_gl rfl rfl | trivial) rfl ?_) | refine O.no rfl rfl rfl rfl ?_
  first | (refine O.yes rfl rfl (by first | rfl | assumption) ?_; first | refine O.cmp rfl rfl rfl (by first | exact decide_eq_true (by omega) | exact decide_eq_false (by omega)) rfl ?_ | refine O.cmp rfl rfl rfl rfl rfl ?_) | refine O.no rfl rfl rfl rfl ?_
  refine O.pick rfl rfl rfl rfl rfl ?_
  refine O.move rfl rfl ?_
  first | (refine O.yes rfl rfl (by first | rfl | assumption) ?_; refine O.field hE L26 rfl rfl rfl rfl ?_) | refine O.no rfl rfl rfl rfl ?_
  first | (refine O.yes rfl rfl (by first | rfl | assumption) ?_; first | refine O.loadS hE T24 rfl rfl rfl (by rfl) rfl ?_ | refine O.loadE hE T24 rfl rfl (by rfl) rfl ?_ | refine O.load hE T24 rfl rfl rfl rfl ?_) | refine O.no rfl rfl rfl rfl ?_
  first | (refine O.yes rfl rfl (by first | rfl | assumption) ?_; first | refine O.lenN hE T24 rfl rfl rfl (by first | exact newest_pv | exact newest_gl rfl rfl | trivial) lenC rfl ?_ | refine O.lenLst hE T24 rfl rfl rfl (by first | exact newest_pv | exact newest_gl rfl rfl | trivial) rfl ?_) | refine O.no rfl rfl rfl rfl ?_
  first | (refine O.yes rfl rfl (by first | rfl | assumption) ?_; first | refine O.cmp rfl rfl rfl (by first | exact decide_eq_true (by omega) | exact decide_eq_false (by omega)) rfl ?_ | refine O.cmp rfl rfl rfl rfl rfl ?_) | refine O.no rfl rfl rfl rfl ?_
  refine O.pick rfl rfl rfl rfl rfl ?_
  refine O.nil ?_
  try refine Run.keep [0, 1, 2, 4, 20, 22, 23, 24, 25, 38] rfl rfl ?_
  repeat (first | refine Run.seq ?_ | refine Run.skip ?_)
  first | refine Run.condT rfl rfl ?_ | refine Run.condF rfl rfl ?_ | refine Run.condT rfl (by assumption) ?_ | refine Run.condF rfl (by assumption) ?_
  repeat (first | refine Run.seq ?_ | refine Run.skip ?_ | refine Run.block ?_)
  refine Run.region ?_
  refine O.field hE L26 rfl rfl rfl rfl ?_
  first | refine O.loadS hE T24 rfl rfl rfl (by rfl) rfl ?_ | refine O.loadE hE T24 rfl rfl (by rfl) rfl ?_ | refine O.load hE T24 rfl rfl rfl rfl ?_
  first | refine O.lenN hE T24 rfl rfl rfl (by first | exact newest_pv | exact newest_gl rfl rfl | trivial) lenC rfl ?_ | refine O.lenLst hE T24 rfl rfl rfl (by first | exact newest_pv | exact newest_gl rfl rfl | trivial) rfl ?_
  refine O.move rfl rfl ?_
  refine O.nil ?_
  try refine Run.keep [0, 1, 2, 4, 20, 22, 23, 24, 25, 38] rfl rfl ?_
  repeat (first | refine Run.seq ?_ | refine Run.skip ?_)
  refine Run.block ?_
  refine Run.loopInv (ι := Nat) (fun j => j ≤ Ws.length) (fun j => ⟨40, [(1, .ptr 1 0), (22, .pv (.lst 33 (Ws.map putE))), (23, .pv (.int .i64 Ws.length)), (24, .pv (.int .i64 (j : Int)))], [(1, .var [.pv (.lst 32 (Ls.map secE)), .pv (.lst 33 (Ws.map putE))])]⟩) (fun j => Ws.length - j) 0 (Nat.zero_le _) ?_ ?_
  ·
    refine SLe.eqv (by repeat (first | exact TmIn.nil | refine TmIn.cons rfl ?_)) (by repeat (first | exact BxIn.nil | refine BxIn.cons rfl ?_)) rfl
  rintro j hj ih
  by_cases hlt : j < Ws.length
  ·
    obtain ⟨w, hv⟩ : ∃ w, Ws[j]? = some w := ⟨_, List.getElem?_eq_getElem hlt⟩
    obtain ⟨w1, w2, w3⟩ := hw w (List.mem_of_getElem? hv)
    have hat : (Ws.map putE)[(j : Int).toNat]? = some (putE w) := by rw [Int.toNat_natCast, List.getElem?_map, hv]; rfl
    obtain ⟨pl, S⟩ := w
    dsimp only at w1 w2 w3
    repeat (first | refine Run.seq ?_ | refine Run.skip ?_ | refine Run.block ?_)
    refine Run.region ?_
    first | refine O.cmp rfl rfl rfl (by first | exact decide_eq_true (by omega) | exact decide_eq_false (by omega)) rfl ?_ | refine O.cmp rfl rfl rfl rfl rfl ?_
    refine O.nil ?_
    try refine Run.keep [0, 1, 2, 4, 20, 22, 23, 24, 25, 38] rfl rfl ?_
    repeat (first | refine Run.seq ?_ | refine Run.skip ?_)
    first | refine Run.condT rfl rfl ?_ | refine Run.condF rfl rfl ?_ | refine Run.condT rfl (by assumption) ?_ | refine Run.condF rfl (by assumption) ?_
    repeat (first | refine Run.seq ?_ | refine Run.skip ?_ | refine Run.block ?_)
    refine Run.region ?_
    refine O.index hE T24 rfl T70 rfl rfl newest_pv rfl (by omega) hat rfl rfl rfl ?_
    refine O.loadEA hE T70 rfl rfl (by simp [PV.cells, ints_len, w3]) rfl ?_
    refine O.alloc hE 4 T70 rfl rfl rfl ?_
    refine O.storeS hE T70 rfl rfl (cells_put pl S) rfl (by simp [PV.cells, ints_len, w3]) (by simp [PV.cells, ints_len, w3]) (setAt_all _ _ (by simp [PV.cells, ints_len, w3])) ?_
    refine O.nil ?_
    try refine Run.keep [0, 1, 2, 4, 20, 22, 23, 24, 25, 38] rfl rfl ?_
    repeat (first | refine Run.seq ?_ | refine Run.skip ?_ | refine Run.block ?_)
    refine Run.region ?_
    refine O.field hE L70 rfl rfl rfl rfl ?_
    first | refine O.loadS hE T3 rfl rfl rfl (by rfl) rfl ?_ | refine O.loadE hE T3 rfl rfl (by rfl) rfl ?_ | refine O.load hE T3 rfl rfl rfl rfl ?_
    first | refine O.cmp rfl rfl rfl (by first | exact decide_eq_true (by omega) | exact decide_eq_false (by omega)) rfl ?_ | refine O.cmp rfl rfl rfl rfl rfl ?_
    refine O.move rfl rfl ?_
    first | (refine O.yes rfl rfl (by first | rfl | assumption) ?_; refine O.field hE L70 rfl rfl rfl rfl ?_) | refine O.no rfl rfl rfl rfl ?_
    first | (refine O.yes rfl rfl (by first | rfl | assumption) ?_; first | refine O.loadS hE T3 rfl rfl rfl (by rfl) rfl ?_ | refine O.loadE hE T3 rfl rfl (by rfl) rfl ?_ | refine O.load hE T3 rfl rfl rfl rfl ?_) | refine O.no rfl rfl rfl rfl ?_
    first | (refine O.yes rfl rfl (by first | rfl | assumption) ?_; refine O.field hE L26 rfl rfl rfl rfl ?_) | refine O.no rfl rfl rfl rfl ?_
    first | (refine O.yes rfl rfl (by first | rfl | assumption) ?_; first | refine O.loadS hE T23 rfl rfl rfl (by rfl) rfl ?_ | refine O.loadE hE T23 rfl rfl (by rfl) rfl ?_ | refine O.load hE T23 rfl rfl rfl rfl ?_) | refine O.no rfl rfl rfl rfl ?_
    first | (refine O.yes rfl rfl (by first | rfl | assumption) ?_; first | refine O.lenN hE T23 rfl rfl rfl (by first | exact newest_pv | exact newest_gl rfl rfl | trivial) lenC rfl ?_ | refine O.lenLst hE T23 rfl rfl rfl (by first | exact newest_pv | exact newest_gl rfl rfl | trivial) rfl ?_) | refine O.no rfl rfl rfl rfl ?_
    first | (refine O.yes rfl rfl (by first | rfl | assumption) ?_; first | refine O.cmp rfl rfl rfl (by first | exact decide_eq_true (by omega) | exact decide_eq_false (by omega)) rfl ?_ | refine O.cmp rfl rfl rfl rfl rfl ?_) | refine O.no rfl rfl rfl rfl ?_
    refine O.pick rfl rfl rfl rfl rfl ?_
    refine O.nil ?_
    try refine Run.keep [0, 1, 2, 4, 20, 22, 23, 24, 25, 38] rfl rfl ?_
    repeat (first | refine Run.seq ?_ | refine Run.skip ?_)
    first | refine Run.condT rfl rfl ?_ | refine Run.condF rfl rfl ?_ | refine Run.condT rfl (by assumption) ?_ | refine Run.condF rfl (by assumption) ?_
    repeat (first | refine Run.seq ?_ | refine Run.skip ?_ | refine Run.block ?_)
    refine Run.region ?_
    first | refine O.ar rfl rfl rfl (by exact wrap_i64 (by omega) (by omega)) rfl ?_ | refine O.ar rfl rfl rfl rfl rfl ?_
    refine O.move rfl rfl ?_
    refine O.nil ?_
    try refine Run.keep [0, 1, 2, 4, 20, 22, 23, 24, 25, 38] rfl rfl ?_
    refine ih (j + 1) _ ?_ (by omega) (by omega)
    exact SLe.drop (by repeat (first | exact TmIn.nil | refine TmIn.cons rfl ?_)) (by repeat (first | exact BxIn.nil | refine BxIn.cons rfl ?_)) rfl rfl
  obtain rfl : j = Ws.length := by omega
  repeat (first | refine Run.seq ?_ | refine Run.skip ?_ | refine Run.block ?_)
  refine Run.region ?_
  first | refine O.cmp rfl rfl rfl (by first | exact decide_eq_true (by omega) | exact decide_eq_false (by omega)) rfl ?_ | refine O.cmp rfl rfl rfl rfl rfl ?_
  refine O.nil ?_
  try refine Run.keep [0, 1, 2, 4, 20, 22, 23, 24, 25, 38] rfl rfl ?_
  repeat (first | refine Run.seq ?_ | refine Run.skip ?_)
  first | refine Run.condT rfl rfl ?_ | refine Run.condF rfl rfl ?_ | refine Run.condT rfl (by assumption) ?_ | refine Run.condF rfl (by assumption) ?_
  refine Run.exit ?_
  repeat (first | refine thenR_exit ?_ | refine roundR_exit ?_ | refine blockR_exit ?_ | refine blockR_pass rfl ?_)
  repeat (first | refine Run.seq ?_ | refine Run.skip ?_ | refine Run.block ?_)
  refine Run.region ?_
  refine O.assign rfl rfl ?_
  refine O.nil ?_
  try refine Run.keep [0, 1, 2, 4, 20, 22, 23, 24, 25, 38] rfl rfl ?_
  (repeat (first | refine Run.seq ?_ | refine Run.skip ?_)); (try refine Run.ret ?_); first | exact Ends.flat hE (.inr rfl) rfl rfl (AVle.of_eq rfl) rfl | exact Ends.flat hE (.inl rfl) rfl rfl (AVle.of_eq rfl) rfl
/-- What a sector has, after so many writes. -/
def rdS (Ls : List (List Int)) (i : Nat) (Ws : List Pt) : Nat → List Int
  | 0 => Ls.getD i []
  | j + 1 => match Ws[j]? with
    | some w => if w.pl = i then w.s else rdS Ls i Ws j
    | none => rdS Ls i Ws j
theorem rdS_len {Ls : List (List Int)} {Ws : List Pt} (h : DOk Ls Ws) {i : Nat} (hi : i < Ls.length) : ∀ j, (rdS Ls i Ws j).length = 32
  | 0 => by
    rw [rdS, List.getD_eq_getElem?_getD, List.getElem?_eq_getElem hi]
    exact h.s _ (List.getElem_mem hi)
  | j + 1 => by
    rw [rdS]
    split
    · rename_i w hw
      split
      · exact (h.w w (List.mem_of_getElem? hw)).2.2
      · exact rdS_len h hi j
    · exact rdS_len h hi j
theorem fnDRead {Ls : List (List Int)} {Ws : List Pt} (h : DOk Ls Ws) {i : Nat} (hi : i < Ls.length) : FnC (En Try.prog g) 24 [dskA Ls Ws, .pv (.int .i64 (i : Int))] (.tup [.agg (cel (rdS Ls i Ws Ws.length)), .pv (.int .i64 0)]) [] := by
  have hE := EnOk g
  have c1 := fnDCheck (g := g) h
  have hlen := rdS_len h hi
  obtain ⟨l1, l4, hs, w6, hw⟩ := h
  have hat0 : (Ls.map secE)[(i : Int).toNat]? = some (secE (rdS Ls i Ws 0)) := by
    rw [Int.toNat_natCast, List.getElem?_map, rdS, List.getD_eq_getElem?_getD, List.getElem?_eq_getElem hi]; rfl
  suffices hx : ∃ r, r = AV.tup [.agg (cel (rdS Ls i Ws Ws.length)), .pv (.int .i64 0)] ∧ FnC (En Try.prog g) 24 [dskA Ls Ws, .pv (.int .i64 (i : Int))] r [] by
    obtain ⟨_, rfl, hx⟩ := hx
    exact hx
  refine FnC.ofEx Try.func24 rfl rfl rfl rfl ?_
  repeat (first | refine Run.seq ?_ | refine Run.skip ?_ | refine Run.block ?_)
  refine Run.region ?_
  refine O.box 2 rfl (by first | rfl | exact cells_ones (by simp [ones_app, ones_ints, ones, AV.one, PV.one])) rfl rfl ?_
  first | refine O.allocS hE 4 T64 ints_zero rfl rfl ?_ | refine O.alloc hE 4 T64 rfl rfl rfl ?_
  refine O.assign rfl rfl ?_
  refine O.nil ?_
  try refine Run.keep [0, 1, 2, 4, 5, 6, 7, 9, 13, 24, 32, 33, 34, 35, 41] rfl rfl ?_
  repeat (first | refine Run.seq ?_ | refine Run.skip ?_ | refine Run.block ?_)
  refine Run.region ?_
  refine O.load hE T26 rfl rfl rfl rfl ?_
  refine O.callE c1 rfl (by first | rfl | simp [closed, men3, mens2_app, mens2_ints, mens2, men2, men1, mens1_app, mens1_ints, mens1]) (by first | rfl | simp [d2, ds1_ints, ds1_app, ds1, d1, ds0_app, ds0_ints, ds0, d0]) rfl ?_
  refine O.assign rfl rfl ?_
  refine O.nil ?_
  try refine Run.keep [0, 1, 2, 4, 5, 6, 7, 9, 13, 24, 32, 33, 34, 35, 41] rfl rfl ?_
  repeat (first | refine Run.seq ?_ | refine Run.skip ?_ | refine Run.block ?_)
  refine Run.region ?_
  refine O.move rfl rfl ?_
  first | refine O.cmp rfl rfl rfl (by first | exact decide_eq_true (by omega) | exact decide_eq_false (by omega)) rfl ?_ | refine O.cmp rfl rfl rfl rfl rfl ?_
  refine O.nil ?_
  try refine Run.keep [0, 1, 2, 4, 5, 6, 7, 9, 13, 24, 32, 33, 34, 35, 41] rfl rfl ?_
  repeat (first | refine Run.seq ?_ | refine Run.skip ?_)
  first | refine Run.condT rfl rfl ?_ | refine Run.condF rfl rfl ?_ | refine Run.condT rfl (by assumption) ?_ | refine Run.condF rfl (by assumption) ?_
  repeat (first | refine Run.seq ?_ | refine Run.skip ?_ | refine Run.block ?_)
  refine Run.region ?_
  refine O.move rfl rfl ?_
  first | refine O.cmp rfl rfl rfl (by first | exact decide_eq_true (by omega) | exact decide_eq_false (by omega)) rfl ?_ | refine O.cmp rfl rfl rfl rfl rfl ?_
  refine O.move rfl rfl ?_
  first | (refine O.yes rfl rfl (by first | rfl | assumption) ?_; refine O.move rfl rfl ?_) | refine O.no rfl rfl rfl rfl ?_
  first | (refine O.yes rfl rfl (by first | rfl | assumption) ?_; refine O.field hE L26 rfl rfl rfl rfl ?_) | refine O.no rfl rfl rfl rfl ?_
  first | (refine O.yes rfl rfl (by first | rfl | assumption) ?_; first | refine O.loadS hE T23 rfl rfl rfl (by rfl) rfl ?_ | refine O.loadE hE T23 rfl rfl (by rfl) rfl ?_ | refine O.load hE T23 rfl rfl rfl rfl ?_) | refine O.no rfl rfl rfl rfl ?_
  first | (refine O.yes rfl rfl (by first | rfl | assumption) ?_; first | refine O.lenN hE T23 rfl rfl rfl (by first | exact newest_pv | exact newest_gl rfl rfl | trivial) lenC rfl ?_ | refine O.lenLst hE T23 rfl rfl rfl (by first | exact newest_pv | exact newest_gl rfl rfl | trivial) rfl ?_) | refine O.no rfl rfl rfl rfl ?_
  first | (refine O.yes rfl rfl (by first | rfl | assumption) ?_; first | refine O.cmp rfl rfl rfl (by first | exact decide_eq_true (by omega) | exact decide_eq_false (by omega)) rfl ?_ | refine O.cmp rfl rfl rfl rfl rfl ?_) | refine O.no rfl rfl rfl rfl ?_
  refine O.pick rfl rfl rfl rfl rfl ?_
  refine O.nil ?_
  try refine Run.keep [0, 1, 2, 4, 5, 6, 7, 9, 13, 24, 32, 33, 34, 35, 41] rfl rfl ?_
  repeat (first | refine Run.seq ?_ | refine Run.skip ?_)
  first | refine Run.condT rfl rfl ?_ | refine Run.condF rfl rfl ?_ | refine Run.condT rfl (by assumption) ?_ | refine Run.condF rfl (by assumption) ?_
  repeat (first | refine Run.seq ?_ | refine Run.skip ?_ | refine Run.block ?_)
  refine Run.region ?_
  refine O.field hE L26 rfl rfl rfl rfl ?_
  first | refine O.loadS hE T23 rfl rfl rfl (by rfl) rfl ?_ | refine O.loadE hE T23 rfl rfl (by rfl) rfl ?_ | refine O.load hE T23 rfl rfl rfl rfl ?_
  refine O.move rfl rfl ?_
  refine O.index hE T23 rfl T64 rfl rfl newest_pv rfl (by omega) hat0 rfl rfl rfl ?_
  refine O.loadEA hE T64 rfl rfl (by simp [PV.cells, ints_len, hlen 0]) rfl ?_
  first | refine O.allocS hE 7 T64 ints_zero rfl rfl ?_ | refine O.alloc hE 7 T64 rfl rfl rfl ?_
  refine O.storeS hE T64 rfl rfl (cells_cel _) rfl (by simp [PV.cells, ints_len, hlen 0]) (by simp [PV.cells, ints_len, hlen 0]) (setAt_all _ _ (by simp [PV.cells, ints_len, hlen 0])) ?_
  refine O.nil ?_
  try refine Run.keep [0, 1, 2, 4, 5, 6, 7, 9, 13, 24, 32, 33, 34, 35, 41] rfl rfl ?_
  repeat (first | refine Run.seq ?_ | refine Run.skip ?_ | refine Run.block ?_)
  refine Run.region ?_
  refine O.field hE L26 rfl rfl rfl rfl ?_
  first | refine O.loadS hE T24 rfl rfl rfl (by rfl) rfl ?_ | refine O.loadE hE T24 rfl rfl (by rfl) rfl ?_ | refine O.load hE T24 rfl rfl rfl rfl ?_
  first | refine O.lenN hE T24 rfl rfl rfl (by first | exact newest_pv | exact newest_gl rfl rfl | trivial) lenC rfl ?_ | refine O.lenLst hE T24 rfl rfl rfl (by first | exact newest_pv | exact newest_gl rfl rfl | trivial) rfl ?_
  refine O.move rfl rfl ?_
  refine O.nil ?_
  try refine Run.keep [0, 1, 2, 4, 5, 6, 7, 9, 13, 24, 32, 33, 34, 35, 41] rfl rfl ?_
  repeat (first | refine Run.seq ?_ | refine Run.skip ?_)
  refine Run.block ?_
  refine Run.loopInv (ι := Nat) (fun j => j ≤ Ws.length) (fun j => ⟨46, [(1, .pv (.int .i64 (i : Int))), (4, .ptr 4 0), (7, .ptr 7 0), (32, .pv (.lst 33 (Ws.map putE))), (33, .pv (.int .i64 Ws.length)), (34, .pv (.int .i64 (j : Int)))], [(7, .var (cel (rdS Ls i Ws j))), (4, .var (ints .u8 (List.replicate 32 0)))]⟩) (fun j => Ws.length - j) 0 (Nat.zero_le _) ?_ ?_
  ·
    exact SLe.drop (by repeat (first | exact TmIn.nil | refine TmIn.cons rfl ?_)) (by repeat (first | exact BxIn.nil | refine BxIn.cons rfl ?_)) rfl (by simp only [mbx, menB, mens2_pvs, mens2_ints, Bool.and_self])
  rintro j hj ih
  by_cases hlt : j < Ws.length
  ·
    obtain ⟨w, hv⟩ : ∃ w, Ws[j]? = some w := ⟨_, List.getElem?_eq_getElem hlt⟩
    obtain ⟨w1, w2, w3⟩ := hw w (List.mem_of_getElem? hv)
    have hat : (Ws.map putE)[(j : Int).toNat]? = some (putE w) := by rw [Int.toNat_natCast, List.getElem?_map, hv]; rfl
    have hstep : rdS Ls i Ws (j + 1) = if w.pl = i then w.s else rdS Ls i Ws j := by rw [rdS, hv]
    have hl0 := hlen j
    have hl1 := hlen (j + 1)
    generalize rdS Ls i Ws j = X at *
    obtain ⟨pl, S⟩ := w
    dsimp only at w1 w2 w3 hstep
    by_cases hpi : pl = i
    ·
      rw [if_pos hpi] at hstep
      repeat (first | refine Run.seq ?_ | refine Run.skip ?_ | refine Run.block ?_)
      refine Run.region ?_
      first | refine O.cmp rfl rfl rfl (by first | exact decide_eq_true (by omega) | exact decide_eq_false (by omega)) rfl ?_ | refine O.cmp rfl rfl rfl rfl rfl ?_
      refine O.nil ?_
      try refine Run.keep [0, 1, 2, 4, 5, 6, 7, 9, 13, 24, 32, 33, 34, 35, 41] rfl rfl ?_
      repeat (first | refine Run.seq ?_ | refine Run.skip ?_)
      first | refine Run.condT rfl rfl ?_ | refine Run.condF rfl rfl ?_ | refine Run.condT rfl (by assumption) ?_ | refine Run.condF rfl (by assumption) ?_
      repeat (first | refine Run.seq ?_ | refine Run.skip ?_ | refine Run.block ?_)
      refine Run.region ?_
      refine O.index hE T24 rfl T70 rfl rfl newest_pv rfl (by omega) hat rfl rfl rfl ?_
      refine O.loadEA hE T70 rfl rfl (by simp [PV.cells, ints_len, w3]) rfl ?_
      refine O.alloc hE 9 T70 rfl rfl rfl ?_
      refine O.storeS hE T70 rfl rfl (cells_put pl S) rfl (by simp [PV.cells, ints_len, w3]) (by simp [PV.cells, ints_len, w3]) (setAt_all _ _ (by simp [PV.cells, ints_len, w3])) ?_
      refine O.nil ?_
      try refine Run.keep [0, 1, 2, 4, 5, 6, 7, 9, 13, 24, 32, 33, 34, 35, 41] rfl rfl ?_
      repeat (first | refine Run.seq ?_ | refine Run.skip ?_ | refine Run.block ?_)
      refine Run.region ?_
      refine O.field hE L70 rfl rfl rfl rfl ?_
      first | refine O.loadS hE T3 rfl rfl rfl (by rfl) rfl ?_ | refine O.loadE hE T3 rfl rfl (by rfl) rfl ?_ | refine O.load hE T3 rfl rfl rfl rfl ?_
      refine O.move rfl rfl ?_
      refine O.cmp (c' := true) rfl rfl rfl (by simpa using hpi) rfl ?_
      refine O.nil ?_
      try refine Run.keep [0, 1, 2, 4, 5, 6, 7, 9, 13, 24, 32, 33, 34, 35, 41] rfl rfl ?_
      repeat (first | refine Run.seq ?_ | refine Run.skip ?_)
      first | refine Run.condT rfl rfl ?_ | refine Run.condF rfl rfl ?_ | refine Run.condT rfl (by assumption) ?_ | refine Run.condF rfl (by assumption) ?_
      repeat (first | refine Run.seq ?_ | refine Run.skip ?_ | refine Run.block ?_)
      refine Run.region ?_
      refine O.field hE L70 rfl rfl rfl rfl ?_
      refine O.loadA (q := cel S) hE T64 rfl rfl rfl (show List.take 32 (cel S) = cel S from List.take_of_length_le (by simp [w3])) (by simp [w3]) rfl ?_
      refine O.storeS hE T64 rfl rfl (cells_cel S) rfl (by simp [w3]) (by simp [w3, hl0]) (setAt_all _ _ (by simp [w3, hl0])) ?_
      refine O.nil ?_
      try refine Run.keep [0, 1, 2, 4, 5, 6, 7, 9, 13, 24, 32, 33, 34, 35, 41] rfl rfl ?_
      repeat (first | refine Run.seq ?_ | refine Run.skip ?_ | refine Run.block ?_)
      refine Run.region ?_
      first | refine O.ar rfl rfl rfl (by exact wrap_i64 (by omega) (by omega)) rfl ?_ | refine O.ar rfl rfl rfl rfl rfl ?_
      refine O.move rfl rfl ?_
      refine O.nil ?_
      try refine Run.keep [0, 1, 2, 4, 5, 6, 7, 9, 13, 24, 32, 33, 34, 35, 41] rfl rfl ?_
      refine ih (j + 1) _ ?_ (by omega) (by omega)
      rw [hstep]
      exact SLe.drop (by repeat (first | exact TmIn.nil | refine TmIn.cons rfl ?_)) (by repeat (first | exact BxIn.nil | refine BxIn.cons rfl ?_)) rfl (by simp only [mbx, menB, mens2_pvs, mens2_ints, Bool.and_self])
    ·
      rw [if_neg hpi] at hstep
      repeat (first | refine Run.seq ?_ | refine Run.skip ?_ | refine Run.block ?_)
      refine Run.region ?_
      first | refine O.cmp rfl rfl rfl (by first | exact decide_eq_true (by omega) | exact decide_eq_false (by omega)) rfl ?_ | refine O.cmp rfl rfl rfl rfl rfl ?_
      refine O.nil ?_
      try refine Run.keep [0, 1, 2, 4, 5, 6, 7, 9, 13, 24, 32, 33, 34, 35, 41] rfl rfl ?_
      repeat (first | refine Run.seq ?_ | refine Run.skip ?_)
      first | refine Run.condT rfl rfl ?_ | refine Run.condF rfl rfl ?_ | refine Run.condT rfl (by assumption) ?_ | refine Run.condF rfl (by assumption) ?_
      repeat (first | refine Run.seq ?_ | refine Run.skip ?_ | refine Run.block ?_)
      refine Run.region ?_
      refine O.index hE T24 rfl T70 rfl rfl newest_pv rfl (by omega) hat rfl rfl rfl ?_
      refine O.loadEA hE T70 rfl rfl (by simp [PV.cells, ints_len, w3]) rfl ?_
      refine O.alloc hE 9 T70 rfl rfl rfl ?_
      refine O.storeS hE T70 rfl rfl (cells_put pl S) rfl (by simp [PV.cells, ints_len, w3]) (by simp [PV.cells, ints_len, w3]) (setAt_all _ _ (by simp [PV.cells, ints_len, w3])) ?_
      refine O.nil ?_
      try refine Run.keep [0, 1, 2, 4, 5, 6, 7, 9, 13, 24, 32, 33, 34, 35, 41] rfl rfl ?_
      repeat (first | refine Run.seq ?_ | refine Run.skip ?_ | refine Run.block ?_)
      refine Run.region ?_
      refine O.field hE L70 rfl rfl rfl rfl ?_
      first | refine O.loadS hE T3 rfl rfl rfl (by rfl) rfl ?_ | refine O.loadE hE T3 rfl rfl (by rfl) rfl ?_ | refine O.load hE T3 rfl rfl rfl rfl ?_
      refine O.move rfl rfl ?_
      refine O.cmp (c' := false) rfl rfl rfl (by simpa using hpi) rfl ?_
      refine O.nil ?_
      try refine Run.keep [0, 1, 2, 4, 5, 6, 7, 9, 13, 24, 32, 33, 34, 35, 41] rfl rfl ?_
      repeat (first | refine Run.seq ?_ | refine Run.skip ?_)
      first | refine Run.condT rfl rfl ?_ | refine Run.condF rfl rfl ?_ | refine Run.condT rfl (by assumption) ?_ | refine Run.condF rfl (by assumption) ?_
      repeat (first | refine Run.seq ?_ | refine Run.skip ?_ | refine Run.block ?_)
      refine Run.region ?_
      first | refine O.ar rfl rfl rfl (by exact wrap_i64 (by omega) (by omega)) rfl ?_ | refine O.ar rfl rfl rfl rfl rfl ?_
      refine O.move rfl rfl ?_
      refine O.nil ?_
      try refine Run.keep [0, 1, 2, 4, 5, 6, 7, 9, 13, 24, 32, 33, 34, 35, 41] rfl rfl ?_
      refine ih (j + 1) _ ?_ (by omega) (by omega)
      rw [hstep]
      exact SLe.drop (by repeat (first | exact TmIn.nil | refine TmIn.cons rfl ?_)) (by repeat (first | exact BxIn.nil | refine BxIn.cons rfl ?_)) rfl (by simp only [mbx, menB, mens2_pvs, mens2_ints, Bool.and_self])
  obtain rfl : j = Ws.length := by omega
  have hl0 := hlen Ws.length
  repeat (first | refine Run.seq ?_ | refine Run.skip ?_ | refine Run.block ?_)
  refine Run.region ?_
  first | refine O.cmp rfl rfl rfl (by first | exact decide_eq_true (by omega) | exact decide_eq_false (by omega)) rfl ?_ | refine O.cmp rfl rfl rfl rfl rfl ?_
  refine O.nil ?_
  try refine Run.keep [0, 1, 2, 4, 5, 6, 7, 9, 13, 24, 32, 33, 34, 35, 41] rfl rfl ?_
  repeat (first | refine Run.seq ?_ | refine Run.skip ?_)
  first | refine Run.condT rfl rfl ?_ | refine Run.condF rfl rfl ?_ | refine Run.condT rfl (by assumption) ?_ | refine Run.condF rfl (by assumption) ?_
  refine Run.exit ?_
  repeat (first | refine thenR_exit ?_ | refine roundR_exit ?_ | refine blockR_exit ?_ | refine blockR_pass rfl ?_)
  generalize rdS Ls i Ws Ws.length = X at *
  repeat (first | refine Run.seq ?_ | refine Run.skip ?_ | refine Run.block ?_)
  refine Run.region ?_
  refine O.loadA (q := cel X) hE T64 rfl rfl rfl (show List.take 32 (cel X) = cel X from List.take_of_length_le (by simp [hl0])) (by simp [hl0]) rfl ?_
  refine O.storeS hE T64 rfl rfl (cells_cel X) rfl (by simp [hl0]) (by simp [ints_len, hl0]) (setAt_all _ _ (by simp [ints_len, hl0])) ?_
  refine O.assign rfl rfl ?_
  refine O.nil ?_
  try refine Run.keep [0, 1, 2, 4, 5, 6, 7, 9, 13, 24, 32, 33, 34, 35, 41] rfl rfl ?_
  refine Run.ret ?_
  exact ⟨_, rfl, Ends.ex hE (.inr rfl) (.cell rfl rfl T64 rfl (by simp [hl0]) (.tmp rfl .nil)) rfl (by simp only [men3, mens2, men2, mens1_pvs, men1, Bool.and_self])⟩
end Go.Proofs.Ytalcpfpjkfpmbaa.Vm
