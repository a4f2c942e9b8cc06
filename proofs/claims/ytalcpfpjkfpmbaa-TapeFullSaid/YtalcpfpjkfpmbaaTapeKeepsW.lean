/- TapeKeeps: its walk. Conditions: none. -/
import Derived.Test.YtalcpfpjkfpmbaaTapeJ
namespace Go.Proofs.Ytalcpfpjkfpmbaa.Vm
open Go Go.RowKit
set_option linter.unusedVariables false
set_option linter.unusedSimpArgs false
attribute [local irreducible] Ops Dr Run
variable {g : Nat → Option (List PV)}
/-- A byte and the beginning of others. -/
def begP (c : Int) (r : List Int) : List Int := c :: r.take (if (100 : Int) < (r.length : Int) then (100 : Int) else (r.length : Int)).toNat
theorem begP_len (c : Int) (r : List Int) : 1 ≤ (begP c r).length ∧ (begP c r).length ≤ 101 := by
  unfold begP
  rw [List.length_cons, List.length_take]
  split <;> omega
theorem begP_ok {c : Int} (hc : 0 ≤ c ∧ c < 256) {r : List Int} (h : bOk r) : rOk (begP c r) := by
  have hl := begP_len c r
  refine ⟨⟨hl.1, by omega⟩, fun z hz => ?_⟩
  unfold begP at hz
  rcases List.mem_cons.1 hz with rfl | hz
  · exact hc
  · exact h z (List.mem_of_mem_take hz)
theorem frms_len2 (rc : List (List Int)) (h : ∀ r ∈ rc, r.length ≤ 61) : (frms rc).length ≤ 67 * rc.length := by
  induction rc with
  | nil => simp [frms]
  | cons r rc ih =>
    have := ih (fun x hx => h x (by simp [hx]))
    have h1 := h r (by simp)
    simp only [frms, List.length_append, hdr_len, List.length_cons]
    omega
set_option maxHeartbeats 4000000 in
theorem fnTapeKeeps {rs : List Rw} {r : List Int} (af keep : Int) (hr : bOk r) (hl : (rs.length : Int) ≤ 9223372036854775807) (hl2 : (r.length : Int) ≤ 9223372036854775807) : FnC (En Try.prog g) 4 [.pv (.lst 4 (rs.map rawE)), .pv (byP r), .pv (.int .i64 af), .pv (.int .i64 keep)] (.pv (.bool true)) [] := by
  have hE := EnOk g
  have c1 := fnTaped (g := g) (rs := rs) hl
  have hl5 : (rs.take 8).length ≤ 8 := by rw [List.length_take]; omega
  generalize rs.take 8 = R at *
  have hrc : ∀ r ∈ R.map recP, rOk r ∧ r.length ≤ 61 := fun r hr => by
    obtain ⟨x, _, rfl⟩ := List.mem_map.1 hr
    exact ⟨recP_ok x, (recP_len x).2⟩
  have h8 : (R.map recP).length ≤ 8 := by simpa using hl5
  generalize R.map recP = rc at *
  obtain ⟨tg, t30⟩ := tp_ok hrc h8 rc.length (Nat.le_refl _)
  rw [List.take_length] at tg
  generalize tpL rc rc.length = L at *
  have hrk : ∀ r ∈ rc, rOk r := fun r hr => (hrc r hr).1
  have hfl := frms_len2 rc (fun r hr => (hrc r hr).2)
  have cp := fnPick (g := g) (a := af) (m := 12) (by omega) (by omega)
  obtain ⟨k, hk, hk0, hk1⟩ : ∃ k : Int, af % 12 = k ∧ 0 ≤ k ∧ k < 12 := ⟨_, rfl, by omega, by omega⟩
  rw [hk] at cp
  have hbr := begP_ok (c := 9) (by omega) hr
  have hbl := begP_len 9 r
  obtain ⟨M, hM⟩ : ∃ M : Int, (if (100 : Int) < (r.length : Int) then (100 : Int) else (r.length : Int)) = M := ⟨_, rfl⟩
  have hM0 : 0 ≤ M ∧ M ≤ 100 ∧ M ≤ r.length := by rw [← hM]; split <;> omega
  have hB0 : begP 9 r = [9] ++ r.take M.toNat := by unfold begP; rw [hM]; rfl
  have hys : (((r.map (PV.int .u8)).take M.toNat).drop (0 : Int).toNat) = (r.take M.toNat).map (PV.int .u8) := by rw [List.map_take]; rfl
  have hq : (r.take M.toNat).length ≤ 100 := by rw [List.length_take]; omega
  generalize r.take M.toNat = Q at *
  obtain ⟨B, hB⟩ : ∃ B, begP 9 r = B := ⟨_, rfl⟩
  rw [hB] at hbr hbl hB0
  have hrm : (((r.map (PV.int .u8)).length : Nat) : Int) = r.length := by simp
  have ca := fnAppend (g := g) tg hrk hbr (by rw [t30]; omega) k (by omega)
  have hal : (frms rc ++ (hdr B ++ B)).length = (frms rc).length + (6 + B.length) := by simp [hdr_len]
  obtain ⟨z1, z2, z3, z4, z5⟩ := apR_ok tg (all := frms rc ++ (hdr B ++ B)) (by rw [t30]; omega) (by omega) (by omega) (fun p hp => by rw [List.getElem?_append_left hp]) k
  have z5 := z5 (kB keep)
  have hrk2 : ∀ x ∈ rc ++ [B], rOk x := fun x hx => by
    rcases List.mem_append.1 hx with hx | hx
    · exact hrk x hx
    · rw [List.mem_singleton.1 hx]; exact hbr
  have cne := fnSameNe (g := g) (A := rc) (B := rc ++ [B]) (by simp)
  have csm := fnSameLists (g := g) (ps := rc ++ [B]) (by simp; omega)
  have csr := fnSameLists (g := g) (ps := rc) (by omega)
  generalize apR L (frms rc).length (frms rc ++ (hdr B ++ B)) k = Z at *
  obtain ⟨L2, W2, dn⟩ := Z
  dsimp only at ca z1 z2 z3 z4 z5
  have cc := fnDCrash (g := g) z1 keep
  generalize fl (kB keep) L2 W2 W2.length = Y at *
  refine FnC.of Try.func4 rfl rfl rfl rfl ?_
  repeat (first | refine Run.seq ?_ | refine Run.skip ?_ | refine Run.block ?_)
  refine Run.region ?_
  refine O.assign rfl rfl ?_
  refine O.nil ?_
  try refine Run.keep [0, 1, 2, 3, 8, 9, 10, 11, 12, 13, 14, 15, 16, 17, 18, 19, 20, 21, 69] rfl rfl ?_
  repeat (first | refine Run.seq ?_ | refine Run.skip ?_ | refine Run.block ?_)
  refine Run.region ?_
  refine O.move rfl rfl ?_
  refine O.callE c1 rfl (by first | rfl | simp [closed, men3, mens2_app, mens2_ints, mens2, men2, men1, mens1_app, mens1_ints, mens1]) (by first | rfl | simp [d2, ds1_ints, ds1_app, ds1, d1, ds0_app, ds0_ints, ds0, d0]) rfl ?_
  refine O.move rfl rfl ?_
  refine O.extract rfl rfl rfl ?_
  refine O.extract rfl rfl rfl ?_
  refine O.extract rfl rfl rfl ?_
  refine O.alloc hE 9 T26 rfl rfl rfl ?_
  refine O.store hE T26 rfl rfl rfl rfl rfl rfl ?_
  refine O.assign rfl rfl ?_
  refine O.assign rfl rfl ?_
  refine O.nil ?_
  try refine Run.keep [0, 1, 2, 3, 8, 9, 10, 11, 12, 13, 14, 15, 16, 17, 18, 19, 20, 21, 69] rfl rfl ?_
  repeat (first | refine Run.seq ?_ | refine Run.skip ?_ | refine Run.block ?_)
  refine Run.region ?_
  refine O.lit hE 28 T32 rfl T5 rfl rfl (xs := [PV.int .u8 9]) rfl rfl rfl rfl rfl rfl ?_
  refine O.move rfl rfl ?_
  refine O.move rfl rfl ?_
  refine O.lenN hE T32 rfl rfl rfl newest_pv hrm rfl ?_
  refine O.minI (r := M) rfl rfl hM rfl ?_
  refine O.slice hE T32 rfl T5 rfl rfl newest_pv rfl rfl rfl (by omega) (by omega) (by simp only [List.length_map]; omega) hys rfl ?_
  refine O.appI (q := [9]) (r := Q) hE T32 rfl T5 rfl rfl rfl rfl rfl newest_pv rfl rfl rfl rfl (by simp; omega) (by simp [maxLen]; omega) rfl ?_
  refine O.assign rfl rfl ?_
  refine O.nil ?_
  try refine Run.keep [0, 1, 2, 3, 8, 9, 10, 11, 12, 13, 14, 15, 16, 17, 18, 19, 20, 21, 69] rfl rfl ?_
  refine Run.pre (s1 := ⟨88, [(2, .pv (.int .i64 af)), (3, .pv (.int .i64 keep)), (9, .ptr 9 0), (10, .pv (.lst 1 (rc.map byP))), (11, .pv (.bool true)), (12, .pv (byP B))], [(9, .var [.pv (.lst 32 (L.map secE)), .pv (.lst 33 ([].map putE))])]⟩) ?_ ?_
  ·
    rw [hB0]
    refine SLe.by rfl ?_ (BxsLe.cons rfl (.refl _) .nil) rfl rfl
    exact TmLe.cons (AVle.of_eq rfl) (TmLe.cons (AVle.of_eq rfl) (TmLe.cons (AVle.of_eq rfl) (TmLe.cons (AVle.of_eq rfl) (TmLe.cons (AVle.of_eq rfl) (TmLe.cons (AVle.lst _ _ _ (lstOf_glV (e := 5) rfl (by simp))) .nil)))))
  repeat (first | refine Run.seq ?_ | refine Run.skip ?_ | refine Run.block ?_)
  refine Run.region ?_
  refine O.move rfl rfl ?_
  refine O.callE cp rfl (by first | rfl | simp [closed, men3, mens2_app, mens2_ints, mens2, men2, men1, mens1_app, mens1_ints, mens1]) (by first | rfl | simp [d2, ds1_ints, ds1_app, ds1, d1, ds0_app, ds0_ints, ds0, d0]) rfl ?_
  refine O.assign rfl rfl ?_
  refine O.nil ?_
  try refine Run.keep [0, 1, 2, 3, 8, 9, 10, 11, 12, 13, 14, 15, 16, 17, 18, 19, 20, 21, 69] rfl rfl ?_
  repeat (first | refine Run.seq ?_ | refine Run.skip ?_ | refine Run.block ?_)
  refine Run.region ?_
  refine O.load hE T26 rfl rfl rfl rfl ?_
  refine O.move rfl rfl ?_
  refine O.move rfl rfl ?_
  refine O.callE ca rfl (by first | rfl | simp [closed, men3, mens2_app, mens2_ints, mens2, men2, men1, mens1_app, mens1_ints, mens1]) (by first | rfl | simp [d2, ds1_ints, ds1_app, ds1, d1, ds0_app, ds0_ints, ds0, d0]) rfl ?_
  refine O.move rfl rfl ?_
  refine O.extract rfl rfl rfl ?_
  refine O.extract rfl rfl rfl ?_
  refine O.extract rfl rfl rfl ?_
  refine O.alloc hE 14 T26 rfl rfl rfl ?_
  refine O.store hE T26 rfl rfl rfl rfl rfl rfl ?_
  refine O.assign rfl rfl ?_
  refine O.assign rfl rfl ?_
  refine O.nil ?_
  try refine Run.keep [0, 1, 2, 3, 8, 9, 10, 11, 12, 13, 14, 15, 16, 17, 18, 19, 20, 21, 69] rfl rfl ?_
  repeat (first | refine Run.seq ?_ | refine Run.skip ?_ | refine Run.block ?_)
  refine Run.region ?_
  refine O.load hE T26 rfl rfl rfl rfl ?_
  refine O.move rfl rfl ?_
  refine O.callE cc rfl (by first | rfl | simp [closed, men3, mens2_app, mens2_ints, mens2, men2, men1, mens1_app, mens1_ints, mens1]) (by first | rfl | simp [d2, ds1_ints, ds1_app, ds1, d1, ds0_app, ds0_ints, ds0, d0]) rfl ?_
  refine O.move rfl rfl ?_
  refine O.extract rfl rfl rfl ?_
  refine O.extract rfl rfl rfl ?_
  refine O.alloc hE 17 T26 rfl rfl rfl ?_
  refine O.store hE T26 rfl rfl rfl rfl rfl rfl ?_
  refine O.assign rfl rfl ?_
  refine O.nil ?_
  try refine Run.keep [0, 1, 2, 3, 8, 9, 10, 11, 12, 13, 14, 15, 16, 17, 18, 19, 20, 21, 69] rfl rfl ?_
  rcases z5 with ⟨hY, hdn⟩ | hY
  ·
    subst hdn
    have co := fnOpen (g := g) (rs := rc) hY hrk
    repeat (first | refine Run.seq ?_ | refine Run.skip ?_ | refine Run.block ?_)
    refine Run.region ?_
    refine O.load hE T26 rfl rfl rfl rfl ?_
    refine O.call (bs' := []) 300 co (.cons (AVle.of_eq rfl) .nil) rfl rfl rfl rfl rfl rfl rfl ?_
    refine O.move rfl rfl ?_
    refine O.extract rfl rfl rfl ?_
    refine O.extract rfl rfl rfl ?_
    refine O.assign rfl rfl ?_
    refine O.assign rfl rfl ?_
    refine O.nil ?_
    try refine Run.keep [0, 1, 2, 3, 8, 9, 10, 11, 12, 13, 14, 15, 16, 17, 18, 19, 20, 21, 69] rfl rfl ?_
    refine Run.pre (s1 := ⟨88, [(10, .pv (.lst 1 (rc.map byP))), (11, .pv (.bool true)), (12, .pv (byP B)), (15, .pv (.bool false)), (16, .pv (.int .i64 0)), (18, .pv (.int .i64 0)), (19, .pv (.lst 1 (rc.map byP))), (20, .pv (.int .i64 0))], []⟩) ?_ ?_
    ·
      refine SLe.by rfl ?_ .nil rfl rfl
      exact TmLe.cons (AVle.of_eq rfl) (TmLe.cons (AVle.of_eq rfl) (TmLe.cons (AVle.of_eq rfl) (TmLe.cons (AVle.of_eq rfl) (TmLe.cons (AVle.of_eq rfl) (TmLe.cons (AVle.of_eq rfl) (TmLe.cons (AVle.lst _ _ _ (lstOf_glV (e := 32) rfl (by simp))) (TmLe.cons (AVle.of_eq rfl) .nil)))))))
    repeat (first | refine Run.seq ?_ | refine Run.skip ?_ | refine Run.block ?_)
    refine Run.region ?_
    refine O.move rfl rfl ?_
    refine O.un rfl rfl rfl rfl rfl ?_
    refine O.move rfl rfl ?_
    first | (refine O.yes rfl rfl (by first | rfl | assumption) ?_; refine O.move rfl rfl ?_) | refine O.no rfl rfl rfl rfl ?_
    first | (refine O.yes rfl rfl (by first | rfl | assumption) ?_; first | refine O.cmp rfl rfl rfl (by first | exact decide_eq_true (by omega) | exact decide_eq_false (by omega)) rfl ?_ | refine O.cmp rfl rfl rfl rfl rfl ?_) | refine O.no rfl rfl rfl rfl ?_
    refine O.pick rfl rfl rfl rfl rfl ?_
    refine O.move rfl rfl ?_
    first | (refine O.yes rfl rfl (by first | rfl | assumption) ?_; refine O.move rfl rfl ?_) | refine O.no rfl rfl rfl rfl ?_
    first | (refine O.yes rfl rfl (by first | rfl | assumption) ?_; first | refine O.cmp rfl rfl rfl (by first | exact decide_eq_true (by omega) | exact decide_eq_false (by omega)) rfl ?_ | refine O.cmp rfl rfl rfl rfl rfl ?_) | refine O.no rfl rfl rfl rfl ?_
    refine O.pick rfl rfl rfl rfl rfl ?_
    refine O.move rfl rfl ?_
    first | (refine O.yes rfl rfl (by first | rfl | assumption) ?_; refine O.move rfl rfl ?_) | refine O.no rfl rfl rfl rfl ?_
    first | (refine O.yes rfl rfl (by first | rfl | assumption) ?_; first | refine O.cmp rfl rfl rfl (by first | exact decide_eq_true (by omega) | exact decide_eq_false (by omega)) rfl ?_ | refine O.cmp rfl rfl rfl rfl rfl ?_) | refine O.no rfl rfl rfl rfl ?_
    refine O.pick rfl rfl rfl rfl rfl ?_
    refine O.nil ?_
    try refine Run.keep [0, 1, 2, 3, 8, 9, 10, 11, 12, 13, 14, 15, 16, 17, 18, 19, 20, 21, 69] rfl rfl ?_
    repeat (first | refine Run.seq ?_ | refine Run.skip ?_)
    first | refine Run.condT rfl rfl ?_ | refine Run.condF rfl rfl ?_ | refine Run.condT rfl (by assumption) ?_ | refine Run.condF rfl (by assumption) ?_
    repeat (first | refine Run.seq ?_ | refine Run.skip ?_ | refine Run.block ?_)
    refine Run.region ?_
    refine O.move rfl rfl ?_
    refine O.lit hE 71 T33 rfl T32 rfl rfl (xs := []) rfl rfl rfl rfl rfl rfl ?_
    refine O.move rfl rfl ?_
    refine O.appM byP (q := []) (r := rc) hE T33 rfl T32 rfl rfl rfl rfl rfl newest_pv rfl rfl rfl rfl (by simp; omega) (by simp [maxLen]; omega) rfl ?_
    refine O.move rfl rfl ?_
    refine O.litV (xs := [B].map byP) hE T33 rfl T32 rfl rfl rfl rfl rfl rfl rfl ?_
    refine O.appM byP (q := rc) (r := [B]) hE T33 rfl T32 rfl rfl rfl rfl rfl newest_pv rfl rfl rfl rfl (by simp; omega) (by simp [maxLen]; omega) rfl ?_
    refine O.callF cne (.cons (AVle.of_eq rfl) (.cons (AVle.lst _ _ _ (lstOf_glV rfl (by simp))) .nil)) rfl rfl rfl ?_
    refine O.assign rfl rfl ?_
    refine O.nil ?_
    try refine Run.keep [0, 1, 2, 3, 8, 9, 10, 11, 12, 13, 14, 15, 16, 17, 18, 19, 20, 21, 69] rfl rfl ?_
    repeat (first | refine Run.seq ?_ | refine Run.skip ?_ | refine Run.block ?_)
    refine Run.region ?_
    refine O.move rfl rfl ?_
    refine O.move rfl rfl ?_
    first | (refine O.yes rfl rfl (by first | rfl | assumption) ?_; refine O.move rfl rfl ?_) | refine O.no rfl rfl rfl rfl ?_
    first | (refine O.yes rfl rfl (by first | rfl | assumption) ?_; refine O.un rfl rfl rfl rfl rfl ?_) | refine O.no rfl rfl rfl rfl ?_
    first | (refine O.yes rfl rfl (by first | rfl | assumption) ?_; refine O.move rfl rfl ?_) | refine O.no rfl rfl rfl rfl ?_
    first | (refine O.yes rfl rfl (by first | rfl | assumption) ?_; refine O.move rfl rfl ?_) | refine O.no rfl rfl rfl rfl ?_
    first | (refine O.yes rfl rfl (by first | rfl | assumption) ?_; refine O.move rfl rfl ?_) | refine O.no rfl rfl rfl rfl ?_
    first | (refine O.yes rfl rfl (by first | rfl | assumption) ?_; refine O.callE csr rfl (by first | rfl | simp [closed, men3, mens2_app, mens2_ints, mens2, men2, men1, mens1_app, mens1_ints, mens1]) (by first | rfl | simp [d2, ds1_ints, ds1_app, ds1, d1, ds0_app, ds0_ints, ds0, d0]) rfl ?_) | refine O.no rfl rfl rfl rfl ?_
    first | (refine O.yes rfl rfl (by first | rfl | assumption) ?_; refine O.pick rfl rfl rfl rfl rfl ?_) | refine O.no rfl rfl rfl rfl ?_
    refine O.pick rfl rfl rfl rfl rfl ?_
    refine O.assign rfl rfl ?_
    refine O.nil ?_
    try refine Run.keep [0, 1, 2, 3, 8, 9, 10, 11, 12, 13, 14, 15, 16, 17, 18, 19, 20, 21, 69] rfl rfl ?_
    (repeat (first | refine Run.seq ?_ | refine Run.skip ?_)); (try refine Run.ret ?_); first | exact Ends.flat hE (.inr rfl) rfl rfl (AVle.of_eq rfl) rfl | exact Ends.flat hE (.inl rfl) rfl rfl (AVle.of_eq rfl) rfl
  ·
    have co := fnOpen (g := g) (rs := (rc ++ [B])) (by rw [frms_snoc]; exact hY) hrk2
    repeat (first | refine Run.seq ?_ | refine Run.skip ?_ | refine Run.block ?_)
    refine Run.region ?_
    refine O.load hE T26 rfl rfl rfl rfl ?_
    refine O.call (bs' := []) 300 co (.cons (AVle.of_eq rfl) .nil) rfl rfl rfl rfl rfl rfl rfl ?_
    refine O.move rfl rfl ?_
    refine O.extract rfl rfl rfl ?_
    refine O.extract rfl rfl rfl ?_
    refine O.assign rfl rfl ?_
    refine O.assign rfl rfl ?_
    refine O.nil ?_
    try refine Run.keep [0, 1, 2, 3, 8, 9, 10, 11, 12, 13, 14, 15, 16, 17, 18, 19, 20, 21, 69] rfl rfl ?_
    refine Run.pre (s1 := ⟨88, [(10, .pv (.lst 1 (rc.map byP))), (11, .pv (.bool true)), (12, .pv (byP B)), (15, .pv (.bool dn)), (16, .pv (.int .i64 0)), (18, .pv (.int .i64 0)), (19, .pv (.lst 1 ((rc ++ [B]).map byP))), (20, .pv (.int .i64 0))], []⟩) ?_ ?_
    ·
      refine SLe.by rfl ?_ .nil rfl rfl
      exact TmLe.cons (AVle.of_eq rfl) (TmLe.cons (AVle.of_eq rfl) (TmLe.cons (AVle.of_eq rfl) (TmLe.cons (AVle.of_eq rfl) (TmLe.cons (AVle.of_eq rfl) (TmLe.cons (AVle.of_eq rfl) (TmLe.cons (AVle.lst _ _ _ (lstOf_glV (e := 32) rfl (by simp))) (TmLe.cons (AVle.of_eq rfl) .nil)))))))
    repeat (first | refine Run.seq ?_ | refine Run.skip ?_ | refine Run.block ?_)
    refine Run.region ?_
    refine O.move rfl rfl ?_
    refine O.un rfl rfl rfl rfl rfl ?_
    refine O.move rfl rfl ?_
    first | (refine O.yes rfl rfl (by first | rfl | assumption) ?_; refine O.move rfl rfl ?_) | refine O.no rfl rfl rfl rfl ?_
    first | (refine O.yes rfl rfl (by first | rfl | assumption) ?_; first | refine O.cmp rfl rfl rfl (by first | exact decide_eq_true (by omega) | exact decide_eq_false (by omega)) rfl ?_ | refine O.cmp rfl rfl rfl rfl rfl ?_) | refine O.no rfl rfl rfl rfl ?_
    refine O.pick rfl rfl rfl rfl rfl ?_
    refine O.move rfl rfl ?_
    first | (refine O.yes rfl rfl (by first | rfl | assumption) ?_; refine O.move rfl rfl ?_) | refine O.no rfl rfl rfl rfl ?_
    first | (refine O.yes rfl rfl (by first | rfl | assumption) ?_; first | refine O.cmp rfl rfl rfl (by first | exact decide_eq_true (by omega) | exact decide_eq_false (by omega)) rfl ?_ | refine O.cmp rfl rfl rfl rfl rfl ?_) | refine O.no rfl rfl rfl rfl ?_
    refine O.pick rfl rfl rfl rfl rfl ?_
    refine O.move rfl rfl ?_
    first | (refine O.yes rfl rfl (by first | rfl | assumption) ?_; refine O.move rfl rfl ?_) | refine O.no rfl rfl rfl rfl ?_
    first | (refine O.yes rfl rfl (by first | rfl | assumption) ?_; first | refine O.cmp rfl rfl rfl (by first | exact decide_eq_true (by omega) | exact decide_eq_false (by omega)) rfl ?_ | refine O.cmp rfl rfl rfl rfl rfl ?_) | refine O.no rfl rfl rfl rfl ?_
    refine O.pick rfl rfl rfl rfl rfl ?_
    refine O.nil ?_
    try refine Run.keep [0, 1, 2, 3, 8, 9, 10, 11, 12, 13, 14, 15, 16, 17, 18, 19, 20, 21, 69] rfl rfl ?_
    repeat (first | refine Run.seq ?_ | refine Run.skip ?_)
    first | refine Run.condT rfl rfl ?_ | refine Run.condF rfl rfl ?_ | refine Run.condT rfl (by assumption) ?_ | refine Run.condF rfl (by assumption) ?_
    repeat (first | refine Run.seq ?_ | refine Run.skip ?_ | refine Run.block ?_)
    refine Run.region ?_
    refine O.move rfl rfl ?_
    refine O.lit hE 71 T33 rfl T32 rfl rfl (xs := []) rfl rfl rfl rfl rfl rfl ?_
    refine O.move rfl rfl ?_
    refine O.appM byP (q := []) (r := rc) hE T33 rfl T32 rfl rfl rfl rfl rfl newest_pv rfl rfl rfl rfl (by simp; omega) (by simp [maxLen]; omega) rfl ?_
    refine O.move rfl rfl ?_
    refine O.litV (xs := [B].map byP) hE T33 rfl T32 rfl rfl rfl rfl rfl rfl rfl ?_
    refine O.appM byP (q := rc) (r := [B]) hE T33 rfl T32 rfl rfl rfl rfl rfl newest_pv rfl rfl rfl rfl (by simp; omega) (by simp [maxLen]; omega) rfl ?_
    refine O.callF csm (.cons (AVle.of_eq rfl) (.cons (AVle.lst _ _ _ (lstOf_glV rfl (by simp))) .nil)) rfl rfl rfl ?_
    refine O.assign rfl rfl ?_
    refine O.nil ?_
    try refine Run.keep [0, 1, 2, 3, 8, 9, 10, 11, 12, 13, 14, 15, 16, 17, 18, 19, 20, 21, 69] rfl rfl ?_
    repeat (first | refine Run.seq ?_ | refine Run.skip ?_ | refine Run.block ?_)
    refine Run.region ?_
    refine O.move rfl rfl ?_
    refine O.move rfl rfl ?_
    first | (refine O.yes rfl rfl (by first | rfl | assumption) ?_; refine O.move rfl rfl ?_) | refine O.no rfl rfl rfl rfl ?_
    first | (refine O.yes rfl rfl (by first | rfl | assumption) ?_; refine O.un rfl rfl rfl rfl rfl ?_) | refine O.no rfl rfl rfl rfl ?_
    first | (refine O.yes rfl rfl (by first | rfl | assumption) ?_; refine O.move rfl rfl ?_) | refine O.no rfl rfl rfl rfl ?_
    first | (refine O.yes rfl rfl (by first | rfl | assumption) ?_; refine O.move rfl rfl ?_) | refine O.no rfl rfl rfl rfl ?_
    first | (refine O.yes rfl rfl (by first | rfl | assumption) ?_; refine O.move rfl rfl ?_) | refine O.no rfl rfl rfl rfl ?_
    first | (refine O.yes rfl rfl (by first | rfl | assumption) ?_; skip) | refine O.no rfl rfl rfl rfl ?_
    first | (refine O.yes rfl rfl (by first | rfl | assumption) ?_; refine O.pick rfl rfl rfl rfl rfl ?_) | refine O.no rfl rfl rfl rfl ?_
    refine O.pick rfl rfl rfl rfl rfl ?_
    refine O.assign rfl rfl ?_
    refine O.nil ?_
    try refine Run.keep [0, 1, 2, 3, 8, 9, 10, 11, 12, 13, 14, 15, 16, 17, 18, 19, 20, 21, 69] rfl rfl ?_
    (repeat (first | refine Run.seq ?_ | refine Run.skip ?_)); (try refine Run.ret ?_); first | exact Ends.flat hE (.inr rfl) rfl rfl (AVle.of_eq rfl) rfl | exact Ends.flat hE (.inl rfl) rfl rfl (AVle.of_eq rfl) rfl
end Go.Proofs.Ytalcpfpjkfpmbaa.Vm
