/- Frames of bytes, and salts: what the functions answer. Conditions: the table of steps has 64 words, where a sum is asked. -/
import Derived.Test.YthpenjbpaegpgaaDoorShaM
namespace Go.Proofs.YthpenjbpaegpgaaDoor.Vm
open Go Go.RowKit
set_option linter.unusedVariables false
set_option linter.unusedSimpArgs false
attribute [local irreducible] Ops Dr Run xorL padL feedP endP macP
variable {g : Nat → Option (List PV)}
theorem lstOf_gl {n : Nat} {tm : List (Nat × AV)} {bx : List (Nat × Box)} {b m e sz : Nat} {xs : List PV} (h : look bx b = some (.lst e sz xs)) (hm : m = xs.length) : St.lstOf ⟨n, tm, bx⟩ (.gl b m) = some (sz, xs) := by
  simp only [St.lstOf, h, hm, List.take_length]
def fourL (n : Int) : List Int := [IntKind.u8.wrap (n.fdiv (2 ^ (min (24 : Int).toNat IntKind.i64.bits))), IntKind.u8.wrap (n.fdiv (2 ^ (min (16 : Int).toNat IntKind.i64.bits))), IntKind.u8.wrap (n.fdiv (2 ^ (min (8 : Int).toNat IntKind.i64.bits))), IntKind.u8.wrap n]
def eightL (n : Int) : List Int := fourL (n.fdiv (2 ^ (min (32 : Int).toNat IntKind.i64.bits))) ++ fourL n
abbrev bs8 (l : List Int) : List PV := l.map (PV.int .u8)
theorem fnFourB (n : Int) : FnC (En Tryd.prog g) 34 [.pv (.int .i64 n)] (.gl 14 4) [(14, .lst 5 1 (bs8 (fourL n)))] := by
  have hE := EnOk g
  refine FnC.of Tryd.func34 rfl rfl rfl rfl ?_
  repeat (first | refine Run.seq ?_ | refine Run.skip ?_ | refine Run.block ?_)
  refine Run.region ?_
  refine O.assign rfl rfl ?_
  refine O.nil ?_
  try refine Run.keep [0, 2] rfl rfl ?_
  repeat (first | refine Run.seq ?_ | refine Run.skip ?_ | refine Run.block ?_)
  refine Run.region ?_
  refine O.move rfl rfl ?_
  refine O.shr rfl rfl (by first | omega | (exact wrap_nn rfl _)) rfl ?_
  refine O.conv hE T3 T5 rfl rfl rfl ?_
  refine O.move rfl rfl ?_
  refine O.shr rfl rfl (by first | omega | (exact wrap_nn rfl _)) rfl ?_
  refine O.conv hE T3 T5 rfl rfl rfl ?_
  refine O.move rfl rfl ?_
  refine O.shr rfl rfl (by first | omega | (exact wrap_nn rfl _)) rfl ?_
  refine O.conv hE T3 T5 rfl rfl rfl ?_
  refine O.move rfl rfl ?_
  refine O.conv hE T3 T5 rfl rfl rfl ?_
  refine O.lit hE 14 T31 rfl T5 rfl rfl rfl rfl rfl rfl rfl rfl ?_
  refine O.assign rfl rfl ?_
  refine O.nil ?_
  try refine Run.keep [0, 2] rfl rfl ?_
  refine Run.ret ?_
  refine Ends.of hE (.inr rfl) rfl rfl (SLe.eqv (by repeat (first | exact TmIn.nil | refine TmIn.cons rfl ?_)) (by repeat (first | exact BxIn.nil | refine BxIn.cons rfl ?_)) rfl)
theorem fnFour (n : Int) : FnC (En Tryd.prog g) 34 [.pv (.int .i64 n)] (.pv (bys (fourL n))) [] :=
  (fnFourB n).to (SLe.res0 (AVle.lst _ _ _ rfl) rfl)
theorem fnEight (n : Int) : FnC (En Tryd.prog g) 24 [.pv (.int .i64 n)] (.pv (bys (eightL n))) [] := by
  have hE := EnOk g
  have c1 := fnFourB (g := g) (n.fdiv (2 ^ (min (32 : Int).toNat IntKind.i64.bits)))
  have c2 := fnFour (g := g) n
  have h4 : ∀ z, (fourL z).length = 4 := fun _ => rfl
  have h5 := h4 n
  have h6 := h4 (n.fdiv (2 ^ (min (32 : Int).toNat IntKind.i64.bits)))
  refine FnC.of Tryd.func24 rfl rfl rfl rfl ?_
  repeat (first | refine Run.seq ?_ | refine Run.skip ?_ | refine Run.block ?_)
  refine Run.region ?_
  refine O.assign rfl rfl ?_
  refine O.nil ?_
  try refine Run.keep [0, 2] rfl rfl ?_
  repeat (first | refine Run.seq ?_ | refine Run.skip ?_ | refine Run.block ?_)
  refine Run.region ?_
  refine O.move rfl rfl ?_
  refine O.shr rfl rfl (by first | omega | (exact wrap_nn rfl _)) rfl ?_
  refine O.call (bs' := []) (r' := .gl 514 4) (bs2 := [(514, .lst 5 1 (bs8 (fourL (n.fdiv (2 ^ (min (32 : Int).toNat IntKind.i64.bits))))))]) 500 c1 (evsO_les _ _ rfl) rfl rfl rfl rfl rfl rfl rfl ?_
  refine O.move rfl rfl ?_
  refine O.callE c2 rfl (by first | rfl | simp [closed, men3, mens2_app, mens2_ints, mens2, men2, men1, mens1_app, mens1_ints, mens1]) (by first | rfl | simp [d2, ds1_ints, ds1_app, ds1, d1, ds0_app, ds0_ints, ds0, d0]) rfl ?_
  refine O.appI hE T31 rfl T5 rfl rfl (by first | rfl | simp) rfl rfl (by first | exact newest_pv | exact newest_gl rfl rfl | trivial) rfl rfl rfl rfl (by first | (simp only [List.length_append, Nat.mul_one]; omega) | (simp only [Nat.mul_one]; omega) | omega) (by unfold maxLen; first | (simp only [List.length_append]; omega) | omega) rfl ?_
  refine O.assign rfl rfl ?_
  refine O.nil ?_
  try refine Run.keep [0, 2] rfl rfl ?_
  refine Run.ret ?_
  refine Ends.of hE (.inr rfl) rfl rfl (SLe.res0 (AVle.lst _ _ _ rfl) rfl)
def frameL (tag : Int) (ps : List (List Int)) : List Int := [IntKind.u8.wrap tag, IntKind.u8.wrap ps.length] ++ (ps.map fun p => fourL p.length ++ p).flatten
theorem ps_at {ps : List (List Int)} {i : Nat} (h : i < ps.length) : (ps.map bys)[i]? = some (bys (ps.getD i [])) := by
  simp [List.getElem?_map, List.getElem?_eq_getElem h, List.getD_eq_getElem?_getD]
theorem fnFrame {tag : Int} {ps : List (List Int)} (hp : (frameL tag ps).length < 1000000000) : FnC (En Tryd.prog g) 23 [.pv (.int .i64 tag), .pv (.lst 1 (ps.map bys))] (.pv (bys (frameL tag ps))) [] := by
  have hE := EnOk g
  obtain ⟨fin, hfin⟩ : ∃ f, frameL tag ps = f := ⟨_, rfl⟩
  rw [hfin] at hp ⊢
  unfold frameL at hfin
  have hlen : (ps.map bys).length = ps.length := by simp
  have hpl : (ps.length : Int) < 1000000000 := by
    have h1 : ps.length ≤ ((ps.map fun p => fourL p.length ++ p).flatten).length := by
      clear hfin hlen
      induction ps with
      | nil => simp
      | cons p ps ih => simp [fourL] at ih ⊢; omega
    have h2 := congrArg List.length hfin
    rw [List.length_append] at h2
    simp only [List.length_cons, List.length_nil] at h2
    omega
  refine FnC.of Tryd.func23 rfl rfl rfl rfl ?_
  repeat (first | refine Run.seq ?_ | refine Run.skip ?_ | refine Run.block ?_)
  refine Run.region ?_
  refine O.assign rfl rfl ?_
  refine O.nil ?_
  try refine Run.keep [0, 1, 4, 5, 7, 14, 15, 16, 17] rfl rfl ?_
  repeat (first | refine Run.seq ?_ | refine Run.skip ?_ | refine Run.block ?_)
  refine Run.region ?_
  refine O.move rfl rfl ?_
  refine O.conv hE T3 T5 rfl rfl rfl ?_
  refine O.move rfl rfl ?_
  first | refine O.lenN hE T24 rfl rfl rfl (by first | exact newest_pv | exact newest_gl rfl rfl | trivial) lenC rfl ?_ | refine O.lenLst hE T24 rfl rfl rfl (by first | exact newest_pv | exact newest_gl rfl rfl | trivial) rfl ?_
  refine O.conv hE T3 T5 rfl rfl rfl ?_
  refine O.lit hE 13 T31 rfl T5 rfl rfl rfl rfl rfl rfl rfl rfl ?_
  refine O.assign rfl rfl ?_
  refine O.nil ?_
  try refine Run.keep [0, 1, 4, 5, 7, 14, 15, 16, 17] rfl rfl ?_
  repeat (first | refine Run.seq ?_ | refine Run.skip ?_ | refine Run.block ?_)
  refine Run.region ?_
  refine O.move rfl rfl ?_
  first | refine O.lenN hE T24 rfl rfl rfl (by first | exact newest_pv | exact newest_gl rfl rfl | trivial) lenC rfl ?_ | refine O.lenLst hE T24 rfl rfl rfl (by first | exact newest_pv | exact newest_gl rfl rfl | trivial) rfl ?_
  refine O.move rfl rfl ?_
  refine O.nil ?_
  try refine Run.keep [0, 1, 4, 5, 7, 14, 15, 16, 17] rfl rfl ?_
  repeat (first | refine Run.seq ?_ | refine Run.skip ?_)
  refine Run.block ?_
  refine Run.loopInv (ι := Nat × List Int) (fun p => p.1 ≤ ps.length ∧ p.2 ++ ((ps.drop p.1).map fun p => fourL p.length ++ p).flatten = fin)
    (fun p => ⟨29, [(5, .gl 13 p.2.length), (14, .pv (.lst 1 (ps.map bys))), (15, .pv (.int .i64 ps.length)), (16, .pv (.int .i64 p.1))], [(13, .lst 5 1 (bs8 p.2))]⟩) (fun p => ps.length - p.1) (0, [IntKind.u8.wrap tag, IntKind.u8.wrap ps.length]) ⟨by omega, hfin⟩ ?_ ?_
  ·
    refine SLe.eqv (by repeat (first | exact TmIn.nil | refine TmIn.cons rfl ?_)) (by repeat (first | exact BxIn.nil | refine BxIn.cons rfl ?_)) rfl
  clear hfin
  rintro ⟨i, out⟩ ⟨hi, hf⟩ ih
  dsimp only at hi hf ih ⊢
  by_cases hlt : i < ps.length
  ·
    have hd : ps.drop i = ps.getD i [] :: ps.drop (i + 1) := by
      rw [List.drop_eq_getElem_cons hlt, List.getD_eq_getElem?_getD, List.getElem?_eq_getElem hlt]; rfl
    rw [hd, List.map_cons, List.flatten_cons, ← List.append_assoc, ← List.append_assoc] at hf
    obtain ⟨P, hP⟩ : ∃ P, ps.getD i [] = P := ⟨_, rfl⟩
    rw [hP] at hf
    have hol : out.length + 4 + P.length < 1000000000 := by
      have := congrArg List.length hf
      simp [fourL] at this
      omega
    have hat : (ps.map bys)[(i : Int).toNat]? = some (bys P) := by rw [← hP]; exact ps_at hlt
    have c1 := fnFour (g := g) P.length
    have h4 : (fourL P.length).length = 4 := rfl
    repeat (first | refine Run.seq ?_ | refine Run.skip ?_ | refine Run.block ?_)
    refine Run.region ?_
    first | refine O.cmp rfl rfl rfl (by first | exact decide_eq_true (by omega) | exact decide_eq_false (by omega)) rfl ?_ | refine O.cmp rfl rfl rfl rfl rfl ?_
    refine O.nil ?_
    try refine Run.keep [0, 1, 4, 5, 7, 14, 15, 16, 17] rfl rfl ?_
    repeat (first | refine Run.seq ?_ | refine Run.skip ?_)
    first | refine Run.condT rfl rfl ?_ | refine Run.condF rfl rfl ?_ | refine Run.condT rfl (by assumption) ?_ | refine Run.condF rfl (by assumption) ?_
    repeat (first | refine Run.seq ?_ | refine Run.skip ?_ | refine Run.block ?_)
    refine Run.region ?_
    refine O.index hE T24 rfl T31 rfl rfl newest_pv rfl (by omega) hat rfl rfl rfl ?_
    first | refine O.loadS hE T31 rfl rfl rfl (by rfl) rfl ?_ | refine O.loadE hE T31 rfl rfl (by rfl) rfl ?_ | refine O.load hE T31 rfl rfl rfl rfl ?_
    refine O.assign rfl rfl ?_
    refine O.nil ?_
    try refine Run.keep [0, 1, 4, 5, 7, 14, 15, 16, 17] rfl rfl ?_
    repeat (first | refine Run.seq ?_ | refine Run.skip ?_ | refine Run.block ?_)
    refine Run.region ?_
    refine O.move rfl rfl ?_
    refine O.move rfl rfl ?_
    first | refine O.lenN hE T31 rfl rfl rfl (by first | exact newest_pv | exact newest_gl rfl rfl | trivial) lenC rfl ?_ | refine O.lenLst hE T31 rfl rfl rfl (by first | exact newest_pv | exact newest_gl rfl rfl | trivial) rfl ?_
    refine O.callE c1 rfl (by first | rfl | simp [closed, men3, mens2_app, mens2_ints, mens2, men2, men1, mens1_app, mens1_ints, mens1]) (by first | rfl | simp [d2, ds1_ints, ds1_app, ds1, d1, ds0_app, ds0_ints, ds0, d0]) rfl ?_
    refine O.appI hE T31 rfl T5 rfl rfl (by first | rfl | simp) rfl rfl (by first | exact newest_pv | exact newest_gl rfl rfl | trivial) rfl rfl rfl rfl (by first | (simp only [List.length_append, Nat.mul_one]; omega) | (simp only [Nat.mul_one]; omega) | omega) (by unfold maxLen; first | (simp only [List.length_append]; omega) | omega) rfl ?_
    refine O.move rfl rfl ?_
    refine O.appI hE T31 rfl T5 rfl rfl (by first | rfl | simp) rfl rfl (by first | exact newest_pv | exact newest_gl rfl rfl | trivial) rfl rfl rfl rfl (by first | (simp only [List.length_append, Nat.mul_one]; omega) | (simp only [Nat.mul_one]; omega) | omega) (by unfold maxLen; first | (simp only [List.length_append]; omega) | omega) rfl ?_
    refine O.assign rfl rfl ?_
    refine O.nil ?_
    try refine Run.keep [0, 1, 4, 5, 7, 14, 15, 16, 17] rfl rfl ?_
    repeat (first | refine Run.seq ?_ | refine Run.skip ?_ | refine Run.block ?_)
    refine Run.region ?_
    first | refine O.ar rfl rfl rfl (by exact wrap_i64 (by omega) (by omega)) rfl ?_ | refine O.ar rfl rfl rfl rfl rfl ?_
    refine O.move rfl rfl ?_
    refine O.nil ?_
    try refine Run.keep [0, 1, 4, 5, 7, 14, 15, 16, 17] rfl rfl ?_
    exact ih (i + 1, out ++ fourL P.length ++ P) _ (by refine SLe.eqv (by repeat (first | exact TmIn.nil | refine TmIn.cons rfl ?_)) (by repeat (first | exact BxIn.nil | refine BxIn.cons rfl ?_)) rfl) ⟨by dsimp only; omega, hf⟩ (by dsimp only; omega)
  have hd : ps.drop i = [] := List.drop_eq_nil_of_le (by omega)
  rw [hd] at hf
  obtain rfl : fin = out := by rw [← hf]; simp
  repeat (first | refine Run.seq ?_ | refine Run.skip ?_ | refine Run.block ?_)
  refine Run.region ?_
  first | refine O.cmp rfl rfl rfl (by first | exact decide_eq_true (by omega) | exact decide_eq_false (by omega)) rfl ?_ | refine O.cmp rfl rfl rfl rfl rfl ?_
  refine O.nil ?_
  try refine Run.keep [0, 1, 4, 5, 7, 14, 15, 16, 17] rfl rfl ?_
  repeat (first | refine Run.seq ?_ | refine Run.skip ?_)
  first | refine Run.condT rfl rfl ?_ | refine Run.condF rfl rfl ?_ | refine Run.condT rfl (by assumption) ?_ | refine Run.condF rfl (by assumption) ?_
  refine Run.exit ?_
  repeat (first | refine thenR_exit ?_ | refine roundR_exit ?_ | refine blockR_exit ?_ | refine blockR_pass rfl ?_)
  repeat (first | refine Run.seq ?_ | refine Run.skip ?_ | refine Run.block ?_)
  refine Run.region ?_
  refine O.move rfl rfl ?_
  refine O.assign rfl rfl ?_
  refine O.nil ?_
  try refine Run.keep [0, 1, 4, 5, 7, 14, 15, 16, 17] rfl rfl ?_
  refine Run.ret ?_
  exact Ends.of hE (.inr rfl) rfl rfl (SLe.res0 (AVle.lst _ _ _ (lstOf_gl rfl (by simp))) rfl)
def saltOpen (sec : List Int) (step place : Int) : List Int := frameL 3 [sec, eightL step, eightL place]
theorem fourL_len (n : Int) : (fourL n).length = 4 := rfl
theorem eightL_len (n : Int) : (eightL n).length = 8 := rfl
theorem fnSaltOpen {sec : List Int} (hs : sec.length ≤ 16) (step place : Int) : FnC (En Tryd.prog g) 16 [.pv (.int .i64 2), .pv (bys sec), .pv (.int .i64 step), .pv (.int .i64 place)] (.tup [.pv (bys (saltOpen sec step place)), .pv (.int .i64 0)]) [] := by
  have hE := EnOk g
  have c1 := fnEight (g := g) step
  have c2 := fnEight (g := g) place
  have c3 := fnFrame (g := g) (tag := 3) (ps := [sec, eightL step, eightL place]) (by simp [frameL, fourL_len, eightL_len]; omega)
  refine FnC.of Tryd.func16 rfl rfl rfl rfl ?_
  repeat (first | refine Run.seq ?_ | refine Run.skip ?_ | refine Run.block ?_)
  refine Run.region ?_
  refine O.assign rfl rfl ?_
  refine O.assign rfl rfl ?_
  refine O.nil ?_
  try refine Run.keep [0, 1, 2, 3, 8, 9, 10, 16, 19, 21] rfl rfl ?_
  repeat (first | refine Run.seq ?_ | refine Run.skip ?_ | refine Run.block ?_)
  refine Run.region ?_
  refine O.move rfl rfl ?_
  first | refine O.cmp rfl rfl rfl (by first | exact decide_eq_true (by omega) | exact decide_eq_false (by omega)) rfl ?_ | refine O.cmp rfl rfl rfl rfl rfl ?_
  refine O.move rfl rfl ?_
  first | (refine O.yes rfl rfl (by first | rfl | assumption) ?_; refine O.move rfl rfl ?_) | refine O.no rfl rfl rfl rfl ?_
  first | (refine O.yes rfl rfl (by first | rfl | assumption) ?_; first | refine O.cmp rfl rfl rfl (by first | exact decide_eq_true (by omega) | exact decide_eq_false (by omega)) rfl ?_ | refine O.cmp rfl rfl rfl rfl rfl ?_) | refine O.no rfl rfl rfl rfl ?_
  refine O.pick rfl rfl rfl rfl rfl ?_
  refine O.nil ?_
  try refine Run.keep [0, 1, 2, 3, 8, 9, 10, 16, 19, 21] rfl rfl ?_
  repeat (first | refine Run.seq ?_ | refine Run.skip ?_)
  first | refine Run.condT rfl rfl ?_ | refine Run.condF rfl rfl ?_ | refine Run.condT rfl (by assumption) ?_ | refine Run.condF rfl (by assumption) ?_
  repeat (first | refine Run.seq ?_ | refine Run.skip ?_ | refine Run.block ?_)
  refine Run.region ?_
  refine O.move rfl rfl ?_
  first | refine O.lenN hE T31 rfl rfl rfl (by first | exact newest_pv | exact newest_gl rfl rfl | trivial) lenC rfl ?_ | refine O.lenLst hE T31 rfl rfl rfl (by first | exact newest_pv | exact newest_gl rfl rfl | trivial) rfl ?_
  first | refine O.cmp rfl rfl rfl (by first | exact decide_eq_true (by omega) | exact decide_eq_false (by omega)) rfl ?_ | refine O.cmp rfl rfl rfl rfl rfl ?_
  refine O.nil ?_
  try refine Run.keep [0, 1, 2, 3, 8, 9, 10, 16, 19, 21] rfl rfl ?_
  repeat (first | refine Run.seq ?_ | refine Run.skip ?_)
  first | refine Run.condT rfl rfl ?_ | refine Run.condF rfl rfl ?_ | refine Run.condT rfl (by assumption) ?_ | refine Run.condF rfl (by assumption) ?_
  repeat (first | refine Run.seq ?_ | refine Run.skip ?_ | refine Run.block ?_)
  refine Run.region ?_
  refine O.move rfl rfl ?_
  first | refine O.cmp rfl rfl rfl (by first | exact decide_eq_true (by omega) | exact decide_eq_false (by omega)) rfl ?_ | refine O.cmp rfl rfl rfl rfl rfl ?_
  refine O.nil ?_
  try refine Run.keep [0, 1, 2, 3, 8, 9, 10, 16, 19, 21] rfl rfl ?_
  repeat (first | refine Run.seq ?_ | refine Run.skip ?_)
  first | refine Run.condT rfl rfl ?_ | refine Run.condF rfl rfl ?_ | refine Run.condT rfl (by assumption) ?_ | refine Run.condF rfl (by assumption) ?_
  repeat (first | refine Run.seq ?_ | refine Run.skip ?_ | refine Run.block ?_)
  refine Run.region ?_
  refine O.move rfl rfl ?_
  refine O.move rfl rfl ?_
  refine O.callE c1 rfl (by first | rfl | simp [closed, men3, mens2_app, mens2_ints, mens2, men2, men1, mens1_app, mens1_ints, mens1]) (by first | rfl | simp [d2, ds1_ints, ds1_app, ds1, d1, ds0_app, ds0_ints, ds0, d0]) rfl ?_
  refine O.move rfl rfl ?_
  refine O.callE c2 rfl (by first | rfl | simp [closed, men3, mens2_app, mens2_ints, mens2, men2, men1, mens1_app, mens1_ints, mens1]) (by first | rfl | simp [d2, ds1_ints, ds1_app, ds1, d1, ds0_app, ds0_ints, ds0, d0]) rfl ?_
  refine O.litV hE T24 rfl T31 rfl rfl rfl rfl rfl rfl rfl ?_
  refine O.callE c3 rfl (by first | rfl | simp [closed, men3, mens2_app, mens2_ints, mens2, men2, men1, mens1_app, mens1_ints, mens1]) (by first | rfl | simp [d2, ds1_ints, ds1_app, ds1, d1, ds0_app, ds0_ints, ds0, d0]) rfl ?_
  refine O.assign rfl rfl ?_
  refine O.assign rfl rfl ?_
  refine O.nil ?_
  try refine Run.keep [0, 1, 2, 3, 8, 9, 10, 16, 19, 21] rfl rfl ?_
  (repeat (first | refine Run.seq ?_ | refine Run.skip ?_)); (try refine Run.ret ?_); first | exact Ends.flat hE (.inr rfl) rfl rfl (AVle.of_eq rfl) rfl | exact Ends.flat hE (.inl rfl) rfl rfl (AVle.of_eq rfl) rfl
theorem fnSaltHashed {T : List Int → List Int → List Int} (hT : Feeds g T) {sec : List Int} (hs : sec.length ≤ 16) (step place : Int) : ∃ c : List Int, c.length = 32 ∧ FnC (En Tryd.prog g) 16 [.pv (.int .i64 1), .pv (bys sec), .pv (.int .i64 step), .pv (.int .i64 place)] (.tup [.pv (bys c), .pv (.int .i64 0)]) [] := by
  have hE := EnOk g
  have c1 := fnEight (g := g) step
  have c2 := fnEight (g := g) place
  have hfl : (frameL 3 [eightL step, eightL place]).length < 1000000000 := by simp [frameL, fourL_len, eightL_len]
  have c3 := fnFrame (g := g) (tag := 3) (ps := [eightL step, eightL place]) hfl
  have c4 := fnMac hT (q := sec) (b := frameL 3 [eightL step, eightL place]) (by omega) (by omega)
  have hml := macP_len (T := T) sec (frameL 3 [eightL step, eightL place])
  generalize macP T sec (frameL 3 [eightL step, eightL place]) = R at *
  refine ⟨R, hml, ?_⟩
  refine FnC.of Tryd.func16 rfl rfl rfl rfl ?_
  repeat (first | refine Run.seq ?_ | refine Run.skip ?_ | refine Run.block ?_)
  refine Run.region ?_
  refine O.assign rfl rfl ?_
  refine O.assign rfl rfl ?_
  refine O.nil ?_
  try refine Run.keep [0, 1, 2, 3, 8, 9, 10, 16, 19, 21] rfl rfl ?_
  repeat (first | refine Run.seq ?_ | refine Run.skip ?_ | refine Run.block ?_)
  refine Run.region ?_
  refine O.move rfl rfl ?_
  first | refine O.cmp rfl rfl rfl (by first | exact decide_eq_true (by omega) | exact decide_eq_false (by omega)) rfl ?_ | refine O.cmp rfl rfl rfl rfl rfl ?_
  refine O.move rfl rfl ?_
  first | (refine O.yes rfl rfl (by first | rfl | assumption) ?_; refine O.move rfl rfl ?_) | refine O.no rfl rfl rfl rfl ?_
  first | (refine O.yes rfl rfl (by first | rfl | assumption) ?_; first | refine O.cmp rfl rfl rfl (by first | exact decide_eq_true (by omega) | exact decide_eq_false (by omega)) rfl ?_ | refine O.cmp rfl rfl rfl rfl rfl ?_) | refine O.no rfl rfl rfl rfl ?_
  refine O.pick rfl rfl rfl rfl rfl ?_
  refine O.nil ?_
  try refine Run.keep [0, 1, 2, 3, 8, 9, 10, 16, 19, 21] rfl rfl ?_
  repeat (first | refine Run.seq ?_ | refine Run.skip ?_)
  first | refine Run.condT rfl rfl ?_ | refine Run.condF rfl rfl ?_ | refine Run.condT rfl (by assumption) ?_ | refine Run.condF rfl (by assumption) ?_
  repeat (first | refine Run.seq ?_ | refine Run.skip ?_ | refine Run.block ?_)
  refine Run.region ?_
  refine O.move rfl rfl ?_
  first | refine O.lenN hE T31 rfl rfl rfl (by first | exact newest_pv | exact newest_gl rfl rfl | trivial) lenC rfl ?_ | refine O.lenLst hE T31 rfl rfl rfl (by first | exact newest_pv | exact newest_gl rfl rfl | trivial) rfl ?_
  first | refine O.cmp rfl rfl rfl (by first | exact decide_eq_true (by omega) | exact decide_eq_false (by omega)) rfl ?_ | refine O.cmp rfl rfl rfl rfl rfl ?_
  refine O.nil ?_
  try refine Run.keep [0, 1, 2, 3, 8, 9, 10, 16, 19, 21] rfl rfl ?_
  repeat (first | refine Run.seq ?_ | refine Run.skip ?_)
  first | refine Run.condT rfl rfl ?_ | refine Run.condF rfl rfl ?_ | refine Run.condT rfl (by assumption) ?_ | refine Run.condF rfl (by assumption) ?_
  repeat (first | refine Run.seq ?_ | refine Run.skip ?_ | refine Run.block ?_)
  refine Run.region ?_
  refine O.move rfl rfl ?_
  first | refine O.cmp rfl rfl rfl (by first | exact decide_eq_true (by omega) | exact decide_eq_false (by omega)) rfl ?_ | refine O.cmp rfl rfl rfl rfl rfl ?_
  refine O.nil ?_
  try refine Run.keep [0, 1, 2, 3, 8, 9, 10, 16, 19, 21] rfl rfl ?_
  repeat (first | refine Run.seq ?_ | refine Run.skip ?_)
  first | refine Run.condT rfl rfl ?_ | refine Run.condF rfl rfl ?_ | refine Run.condT rfl (by assumption) ?_ | refine Run.condF rfl (by assumption) ?_
  repeat (first | refine Run.seq ?_ | refine Run.skip ?_ | refine Run.block ?_)
  refine Run.region ?_
  refine O.move rfl rfl ?_
  refine O.move rfl rfl ?_
  refine O.callE c1 rfl (by first | rfl | simp [closed, men3, mens2_app, mens2_ints, mens2, men2, men1, mens1_app, mens1_ints, mens1]) (by first | rfl | simp [d2, ds1_ints, ds1_app, ds1, d1, ds0_app, ds0_ints, ds0, d0]) rfl ?_
  refine O.move rfl rfl ?_
  refine O.callE c2 rfl (by first | rfl | simp [closed, men3, mens2_app, mens2_ints, mens2, men2, men1, mens1_app, mens1_ints, mens1]) (by first | rfl | simp [d2, ds1_ints, ds1_app, ds1, d1, ds0_app, ds0_ints, ds0, d0]) rfl ?_
  refine O.litV hE T24 rfl T31 rfl rfl rfl rfl rfl rfl rfl ?_
  refine O.callE c3 rfl (by first | rfl | simp [closed, men3, mens2_app, mens2_ints, mens2, men2, men1, mens1_app, mens1_ints, mens1]) (by first | rfl | simp [d2, ds1_ints, ds1_app, ds1, d1, ds0_app, ds0_ints, ds0, d0]) rfl ?_
  refine O.callE c4 rfl (by first | rfl | simp [closed, men3, mens2_app, mens2_ints, mens2, men2, men1, mens1_app, mens1_ints, mens1]) (by first | rfl | simp [d2, ds1_ints, ds1_app, ds1, d1, ds0_app, ds0_ints, ds0, d0]) rfl ?_
  first | refine O.allocS hE 10 T55 ints_zero rfl rfl ?_ | refine O.alloc hE 10 T55 rfl rfl rfl ?_
  first | refine O.storeS hE T55 rfl rfl (by first | rfl | exact cells_ones (by simp [ones_app, ones_ints, ones, AV.one, PV.one])) rfl (by first | rfl | simp [ints_len, *]) (by simp [ints_len, *] <;> omega) (setAt_all _ _ (by simp [ints_len, *])) ?_ | refine O.store hE T55 rfl rfl rfl rfl rfl rfl ?_
  refine O.nil ?_
  try refine Run.keep [0, 1, 2, 3, 8, 9, 10, 16, 19, 21] rfl rfl ?_
  refine Run.freezeI (tm' := [(10, .eptr (R.map (PV.int .u8)))]) (bx' := []) 10 rfl (by repeat (first | exact TmFz.nil | refine TmFz.keep rfl ?_ | refine TmFz.fz rfl rfl ?_)) (by repeat (first | exact BxIn.nil | refine BxIn.cons rfl ?_)) rfl (by first | rfl | simp [mtm, men3, mens2_app, mens2_ints, mens2, men2, men1, has, look]) (by first | rfl | simp [mbx, menB, mens2_app, mens2_ints, mens2, men2, men1]) ?_
  repeat (first | refine Run.seq ?_ | refine Run.skip ?_ | refine Run.block ?_)
  refine Run.region ?_
  refine O.lit hE 37 T31 rfl T5 rfl rfl rfl rfl rfl rfl rfl rfl ?_
  first | refine O.sliceE hE T55 rfl T5 rfl (by first | assumption | simp [*]) rfl rfl ?_ | refine O.sliceW hE T55 rfl T5 rfl rfl rfl ?_
  refine O.appI (q := []) hE T31 rfl T5 rfl rfl rfl rfl rfl newest_pv rfl rfl rfl rfl (by simp [hml]) (by simp [hml, maxLen]) rfl ?_
  refine O.assign rfl rfl ?_
  refine O.assign rfl rfl ?_
  refine O.nil ?_
  try refine Run.keep [0, 1, 2, 3, 8, 9, 10, 16, 19, 21] rfl rfl ?_
  refine Run.ret ?_
  exact Ends.of hE (.inr rfl) rfl rfl (SLe.res0 (AVle.tups (.cons (AVle.lst _ _ _ (lstOf_gl rfl (by simp))) (.cons (AVle.of_eq rfl) .nil))) rfl)
end Go.Proofs.YthpenjbpaegpgaaDoor.Vm
