/- What bytes tell as a reply. Conditions: none. -/
import Derived.Test.YtalcpfpjkfpmbaaDoorWireA
import Derived.Test.YtalcpfpjkfpmbaaDoorCodeG
namespace Go.Proofs.YtalcpfpjkfpmbaaDoor.Vm
open Go Go.RowKit Go.Lib
set_option linter.unusedVariables false
set_option linter.unusedSimpArgs false
attribute [local irreducible] Ops Dr Run eightU esc turnU oneP encP
abbrev rowE (vs : List Vl) : PV := .lst 4 (vs.map vlE)
/-- A row as bytes, its size ahead. -/
def rowP (vs : List Vl) : List Int := (vs.length : Int) :: ((encP 0 0 vs).length : Int) / 256 % 256 :: ((encP 0 0 vs).length : Int) % 256 :: encP 0 0 vs
def rowsP : List (List Vl) → List Int
  | [] => []
  | vs :: r => rowP vs ++ rowsP r
def RowOk (vs : List Vl) : Prop := vs.length ≤ 5 ∧ ∀ v ∈ vs, Good v
/-- How the rest of bytes ends, behind so many rows. -/
inductive Fate (g : Nat → Option (List PV)) (n : Nat) (rs : List (List Vl)) : List Int → Int → Prop
  | ok : rs.length = n → Fate g n rs [] 0
  | form (z : Int) (t : List Int) : rs.length = n → Fate g n rs (z :: t) 3
  | short (t : List Int) : rs.length < n → t.length < 3 → Fate g n rs t 4
  | cut (k m1 m2 : Int) (t : List Int) : rs.length < n → (t.length : Int) < m1 * 256 + m2 → Fate g n rs (k :: m1 :: m2 :: t) 4
  | dec (k m1 m2 : Int) (t : List Int) (e : Int) : rs.length < n → m1 * 256 + m2 ≤ t.length → e ≠ 0 → FnC (En Tryd.prog g) 21 [.pv (byv (t.take (m1 * 256 + m2).toNat)), .pv (.int .i64 k), .pv (.int .i64 0)] (.tup [.pv .nil, .pv (.int .i64 e)]) [] → Fate g n rs (k :: m1 :: m2 :: t) e
abbrev rplA (e c : Int) (rs : List (List Vl)) : AV := .agg [.pv (.int .i64 e), .pv (.int .i64 c), .pv (.lst 1 (rs.map rowE))]
def tolR (e c : Int) (rs : List (List Vl)) (x : Int) : AV := if x = 0 then .tup [rplA e c rs, .pv (.int .i64 0)] else .tup [.agg [.pv (.int .i64 0), .pv (.int .i64 0), .pv .nil], .pv (.int .i64 x)]
set_option maxHeartbeats 4000000 in
theorem fnTold {g : Nat → Option (List PV)} {e c : Int} {n : Nat} {rs : List (List Vl)} {tail : List Int} {x : Int} (he : 0 ≤ e ∧ e ≤ 12) (hc : 0 ≤ c ∧ c ≤ 64) (hn : n ≤ 64) (hR : ∀ v, Good v → ReadOk g v) (hrs : ∀ vs ∈ rs, RowOk vs) (hF : Fate g n rs tail x) (ht : ∀ z ∈ tail, 0 ≤ z ∧ z < 256) (hlen : (rowsP rs ++ tail).length ≤ 9223372036854775804) :
    FnC (En Tryd.prog g) 12 [.pv (byv (e :: c :: (n : Int) :: (rowsP rs ++ tail)))] (tolR e c rs x) [] := by
  have hE := EnOk g
  have hrn : rs.length ≤ n := by cases hF <;> omega
  have hXm : ((((e :: c :: (n : Int) :: (rowsP rs ++ tail)).map (PV.int .u8)).length : Nat) : Int) = 3 + (rowsP rs ++ tail).length := by simp; omega
  have hb3 : ((((e :: c :: (n : Int) :: (rowsP rs ++ tail)).map (PV.int .u8)).take ((e :: c :: (n : Int) :: (rowsP rs ++ tail)).map (PV.int .u8)).length).drop (3 : Int).toNat) = (rowsP rs ++ tail).map (PV.int .u8) := by rw [List.take_length]; rfl
  have hXm0 : ((e :: c :: (n : Int) :: (rowsP rs ++ tail)).map (PV.int .u8)).length = 3 + (rowsP rs ++ tail).length := by simp; omega
  refine FnC.of Tryd.func12 rfl rfl rfl rfl ?_
  repeat (first | refine Run.seq ?_ | refine Run.skip ?_ | refine Run.block ?_)
  refine Run.region ?_
  refine O.alloc hE 2 T36 rfl rfl rfl ?_
  refine O.assign rfl rfl ?_
  refine O.nil ?_
  try refine Run.keep [0, 2, 3, 4, 5, 6, 7, 8, 9, 12, 38, 42, 43, 44, 47, 68, 79, 94] rfl rfl ?_
  repeat (first | refine Run.seq ?_ | refine Run.skip ?_ | refine Run.block ?_)
  refine Run.region ?_
  refine O.move rfl rfl ?_
  refine O.lenN hE T27 rfl rfl rfl newest_pv hXm rfl ?_
  first | refine O.cmp rfl rfl rfl (by first | exact decide_eq_true (by omega) | exact decide_eq_false (by omega)) rfl ?_ | refine O.cmp rfl rfl rfl rfl rfl ?_
  refine O.nil ?_
  try refine Run.keep [0, 2, 3, 4, 5, 6, 7, 8, 9, 12, 38, 42, 43, 44, 47, 68, 79, 94] rfl rfl ?_
  repeat (first | refine Run.seq ?_ | refine Run.skip ?_)
  first | refine Run.condT rfl rfl ?_ | refine Run.condF rfl rfl ?_ | refine Run.condT rfl (by assumption) ?_ | refine Run.condF rfl (by assumption) ?_
  repeat (first | refine Run.seq ?_ | refine Run.skip ?_ | refine Run.block ?_)
  refine Run.draw mixed rfl ?_
  refine D.move rfl rfl ?_
  refine D.index (el := .int .u8 e) hE T27 rfl T5 rfl rfl newest_pv rfl (by omega) rfl rfl rfl rfl ?_
  first | refine D.loadS hE T5 rfl rfl rfl (by rfl) rfl ?_ | refine D.loadE hE T5 rfl rfl (by rfl) rfl ?_ | refine D.load hE T5 rfl rfl rfl rfl ?_
  refine D.convQ (q := e) hE T5 T33 rfl rfl (wrap_i64 (by omega) (by omega)) rfl ?_
  refine D.move rfl rfl ?_
  refine D.index (el := .int .u8 c) hE T27 rfl T5 rfl rfl newest_pv rfl (by omega) rfl rfl rfl rfl ?_
  first | refine D.loadS hE T5 rfl rfl rfl (by rfl) rfl ?_ | refine D.loadE hE T5 rfl rfl (by rfl) rfl ?_ | refine D.load hE T5 rfl rfl rfl rfl ?_
  refine D.convQ (q := c) hE T5 T3 rfl rfl (wrap_i64 (by omega) (by omega)) rfl ?_
  refine D.build hE T36 L36 rfl rfl rfl ?_
  refine D.alloc hE 4 T36 rfl rfl rfl ?_
  refine D.store hE T36 rfl rfl rfl rfl rfl rfl ?_
  refine Dr.nil ?_
  refine ⟨rfl, ?_⟩
  try refine Run.keep [0, 2, 3, 4, 5, 6, 7, 8, 9, 12, 38, 42, 43, 44, 47, 68, 79, 94] rfl rfl ?_
  repeat (first | refine Run.seq ?_ | refine Run.skip ?_ | refine Run.block ?_)
  refine Run.region ?_
  refine O.move rfl rfl ?_
  refine O.index (el := .int .u8 (n : Int)) hE T27 rfl T5 rfl rfl newest_pv rfl (by omega) rfl rfl rfl rfl ?_
  first | refine O.loadS hE T5 rfl rfl rfl (by rfl) rfl ?_ | refine O.loadE hE T5 rfl rfl (by rfl) rfl ?_ | refine O.load hE T5 rfl rfl rfl rfl ?_
  refine O.convQ (q := (n : Int)) hE T5 T3 rfl rfl (wrap_i64 (by omega) (by omega)) rfl ?_
  refine O.assign rfl rfl ?_
  refine O.nil ?_
  try refine Run.keep [0, 2, 3, 4, 5, 6, 7, 8, 9, 12, 38, 42, 43, 44, 47, 68, 79, 94] rfl rfl ?_
  repeat (first | refine Run.seq ?_ | refine Run.skip ?_ | refine Run.block ?_)
  refine Run.region ?_
  refine O.field hE L36 rfl rfl rfl rfl ?_
  first | refine O.loadS hE T33 rfl rfl rfl (by rfl) rfl ?_ | refine O.loadE hE T33 rfl rfl (by rfl) rfl ?_ | refine O.load hE T33 rfl rfl rfl rfl ?_
  first | refine O.cmp rfl rfl rfl (by first | exact decide_eq_true (by omega) | exact decide_eq_false (by omega)) rfl ?_ | refine O.cmp rfl rfl rfl rfl rfl ?_
  refine O.move rfl rfl ?_
  first | (refine O.yes rfl rfl (by first | rfl | assumption) ?_; refine O.field hE L36 rfl rfl rfl rfl ?_) | refine O.no rfl rfl rfl rfl ?_
  first | (refine O.yes rfl rfl (by first | rfl | assumption) ?_; first | refine O.loadS hE T3 rfl rfl rfl (by rfl) rfl ?_ | refine O.loadE hE T3 rfl rfl (by rfl) rfl ?_ | refine O.load hE T3 rfl rfl rfl rfl ?_) | refine O.no rfl rfl rfl rfl ?_
  first | (refine O.yes rfl rfl (by first | rfl | assumption) ?_; first | refine O.cmp rfl rfl rfl (by first | exact decide_eq_true (by omega) | exact decide_eq_false (by omega)) rfl ?_ | refine O.cmp rfl rfl rfl rfl rfl ?_) | refine O.no rfl rfl rfl rfl ?_
  refine O.pick rfl rfl rfl rfl rfl ?_
  refine O.move rfl rfl ?_
  first | (refine O.yes rfl rfl (by first | rfl | assumption) ?_; refine O.move rfl rfl ?_) | refine O.no rfl rfl rfl rfl ?_
  first | (refine O.yes rfl rfl (by first | rfl | assumption) ?_; first | refine O.cmp rfl rfl rfl (by first | exact decide_eq_true (by omega) | exact decide_eq_false (by omega)) rfl ?_ | refine O.cmp rfl rfl rfl rfl rfl ?_) | refine O.no rfl rfl rfl rfl ?_
  refine O.pick rfl rfl rfl rfl rfl ?_
  refine O.nil ?_
  try refine Run.keep [0, 2, 3, 4, 5, 6, 7, 8, 9, 12, 38, 42, 43, 44, 47, 68, 79, 94] rfl rfl ?_
  repeat (first | refine Run.seq ?_ | refine Run.skip ?_)
  first | refine Run.condT rfl rfl ?_ | refine Run.condF rfl rfl ?_ | refine Run.condT rfl (by assumption) ?_ | refine Run.condF rfl (by assumption) ?_
  repeat (first | refine Run.seq ?_ | refine Run.skip ?_ | refine Run.block ?_)
  refine Run.region ?_
  refine O.move rfl rfl ?_
  refine O.slice (ys := (rowsP rs ++ tail).map (PV.int .u8)) hE T27 rfl T5 rfl rfl newest_pv rfl rfl rfl (by omega) (by rw [hXm0]; omega) (Int.le_refl _) hb3 rfl ?_
  refine O.assign rfl rfl ?_
  refine O.nil ?_
  try refine Run.keep [0, 2, 3, 4, 5, 6, 7, 8, 9, 12, 38, 42, 43, 44, 47, 68, 79, 94] rfl rfl ?_
  repeat (first | refine Run.seq ?_ | refine Run.skip ?_ | refine Run.block ?_)
  refine Run.region ?_
  refine O.move rfl rfl ?_
  refine O.move rfl rfl ?_
  refine O.nil ?_
  try refine Run.keep [0, 2, 3, 4, 5, 6, 7, 8, 9, 12, 38, 42, 43, 44, 47, 68, 79, 94] rfl rfl ?_
  refine Run.pre (SLe.nilCell (c := 4) (i := 2) (b := 120) (e := 37) (sz := 1) rfl rfl rfl rfl) ?_
  repeat (first | refine Run.seq ?_ | refine Run.skip ?_)
  refine Run.block ?_
  refine Run.loopInv (ι := Nat) (fun j => j ≤ rs.length) (fun j => ⟨97, [(0, .pv (byv (rowsP (rs.drop j) ++ tail))), (2, .ptr 2 0), (4, .ptr 4 0), (42, .pv (.int .i64 n)), (43, .pv (.int .i64 (j : Int)))], [(120, .lst 37 1 ((rs.take j).map rowE)), (4, .var [.pv (.int .i64 e), .pv (.int .i64 c), .gl 120 (rs.take j).length]), (2, .var [.pv (.int .i64 0), .pv (.int .i64 0), .pv .nil])]⟩) (fun j => rs.length - j) 0 (Nat.zero_le _) ?_ ?_
  ·
    exact SLe.drop (by repeat (first | exact TmIn.nil | refine TmIn.cons rfl ?_)) (by repeat (first | exact BxIn.nil | refine BxIn.cons rfl ?_)) rfl rfl
  clear hXm hb3 hXm0
  have hsuf : ∀ j, j ≤ rs.length → (rowsP (rs.drop j) ++ tail).length ≤ (rowsP rs ++ tail).length := by
    intro j
    induction j with
    | zero => intro _; simp
    | succ j ih =>
      intro hj
      have := ih (by omega)
      rw [List.drop_eq_getElem_cons (show j < rs.length by omega), rowsP] at this
      simp only [List.length_append] at this ⊢
      omega
  rintro j hj ih
  have hs0 := hsuf j hj
  by_cases hlt : j < rs.length
  ·
    have hrj := hrs rs[j] (List.getElem_mem hlt)
    have e1 : rs.take (j + 1) = rs.take j ++ [rs[j]] := by rw [List.take_add_one, List.getElem?_eq_getElem hlt]; rfl
    have htl : (rs.take j).length = j := by rw [List.length_take]; omega
    have e0 : rowsP (rs.drop j) ++ tail = rowP rs[j] ++ (rowsP (rs.drop (j + 1)) ++ tail) := by rw [List.drop_eq_getElem_cons hlt, rowsP, List.append_assoc]
    rw [e0] at hs0 ⊢
    obtain ⟨N, hN⟩ : ∃ N, rowsP (rs.drop (j + 1)) ++ tail = N := ⟨_, rfl⟩
    rw [hN] at hs0 ⊢
    generalize rs.take j = T at *
    generalize rs[j] = vs at *
    obtain ⟨v5, hg⟩ := hrj
    have hbl := encP_len (down := 0) 0 vs hg
    have cd := fnDecode v5 hg (fun v hv => hR v (hg v hv)) 0
    rw [rowP] at hs0 ⊢
    generalize encP 0 0 vs = Q at *
    obtain ⟨m, hm⟩ : ∃ m : Nat, Q.length = m := ⟨_, rfl⟩
    rw [hm] at hbl hs0 ⊢
    obtain ⟨k, hk⟩ : ∃ k : Int, (vs.length : Int) = k := ⟨_, rfl⟩
    obtain ⟨m1, hm1⟩ : ∃ m1 : Int, (m : Int) / 256 % 256 = m1 := ⟨_, rfl⟩
    obtain ⟨m2, hm2⟩ : ∃ m2 : Int, (m : Int) % 256 = m2 := ⟨_, rfl⟩
    have hmm : m1 * 256 + m2 = m := by omega
    rw [hk] at hs0 cd
    rw [hk, hm1, hm2]
    simp only [List.cons_append, List.length_cons, List.length_append, hm] at hs0 ⊢
    obtain ⟨R, hRR⟩ : ∃ R, Q ++ N = R := ⟨_, rfl⟩
    have hRl : R.length = m + N.length := by rw [← hRR, List.length_append, hm]
    have hz1 : ((((R.map (PV.int .u8)).take (m1 * 256 + m2).toNat).drop (0 : Int).toNat)) = Q.map (PV.int .u8) := by
      rw [hmm, Int.toNat_natCast, ← List.map_take, ← hRR, ← hm, List.take_left]; rfl
    have hz2 : (((R.map (PV.int .u8)).take (R.map (PV.int .u8)).length).drop (m1 * 256 + m2).toNat) = N.map (PV.int .u8) := by
      rw [hmm, Int.toNat_natCast, List.take_length, ← List.map_drop, ← hRR, ← hm, List.drop_left]
    rw [hRR]
    clear hRR
    have hs8 : IntKind.i64.wrap (m1 * 2 ^ (min (Int.toNat 8) IntKind.i64.bits)) = m1 * 256 := by
      rw [show min (Int.toNat 8) IntKind.i64.bits = 8 from rfl, show (2 : Int) ^ 8 = 256 from by decide]
      exact wrap_i64 (by omega) (by omega)
    have hor := or_i64 (x := m1) (c := m2) (by omega) (by omega)
    have hXm0 : ((k :: m1 :: m2 :: R).map (PV.int .u8)).length = 3 + R.length := by simp; omega
    have hXm : ((((k :: m1 :: m2 :: R).map (PV.int .u8)).length : Nat) : Int) = 3 + R.length := by rw [hXm0]; omega
    have hx0 : ((k :: m1 :: m2 :: R).map (PV.int .u8))[(0 : Int).toNat]? = some (.int .u8 k) := rfl
    have hx1 : ((k :: m1 :: m2 :: R).map (PV.int .u8))[(1 : Int).toNat]? = some (.int .u8 m1) := rfl
    have hx2 : ((k :: m1 :: m2 :: R).map (PV.int .u8))[(2 : Int).toNat]? = some (.int .u8 m2) := rfl
    have hy3 : ((((k :: m1 :: m2 :: R).map (PV.int .u8)).take ((k :: m1 :: m2 :: R).map (PV.int .u8)).length).drop (3 : Int).toNat) = R.map (PV.int .u8) := by rw [List.take_length]; rfl
    have hRm : (((R.map (PV.int .u8)).length : Nat) : Int) = R.length := by simp
    repeat (first | refine Run.seq ?_ | refine Run.skip ?_ | refine Run.block ?_)
    refine Run.region ?_
    first | refine O.cmp rfl rfl rfl (by first | exact decide_eq_true (by omega) | exact decide_eq_false (by omega)) rfl ?_ | refine O.cmp rfl rfl rfl rfl rfl ?_
    refine O.nil ?_
    try refine Run.keep [0, 2, 3, 4, 5, 6, 7, 8, 9, 12, 38, 42, 43, 44, 47, 68, 79, 94] rfl rfl ?_
    repeat (first | refine Run.seq ?_ | refine Run.skip ?_)
    first | refine Run.condT rfl rfl ?_ | refine Run.condF rfl rfl ?_ | refine Run.condT rfl (by assumption) ?_ | refine Run.condF rfl (by assumption) ?_
    repeat (first | refine Run.seq ?_ | refine Run.skip ?_ | refine Run.block ?_)
    refine Run.region ?_
    refine O.move rfl rfl ?_
    refine O.lenN hE T27 rfl rfl rfl newest_pv hXm rfl ?_
    first | refine O.cmp rfl rfl rfl (by first | exact decide_eq_true (by omega) | exact decide_eq_false (by omega)) rfl ?_ | refine O.cmp rfl rfl rfl rfl rfl ?_
    refine O.nil ?_
    try refine Run.keep [0, 2, 3, 4, 5, 6, 7, 8, 9, 12, 38, 42, 43, 44, 47, 68, 79, 94] rfl rfl ?_
    repeat (first | refine Run.seq ?_ | refine Run.skip ?_)
    first | refine Run.condT rfl rfl ?_ | refine Run.condF rfl rfl ?_ | refine Run.condT rfl (by assumption) ?_ | refine Run.condF rfl (by assumption) ?_
    repeat (first | refine Run.seq ?_ | refine Run.skip ?_ | refine Run.block ?_)
    refine Run.draw mixed rfl ?_
    refine D.move rfl rfl ?_
    refine D.index (el := .int .u8 k) hE T27 rfl T5 rfl rfl newest_pv rfl (by omega) hx0 rfl rfl rfl ?_
    first | refine D.loadS hE T5 rfl rfl rfl (by rfl) rfl ?_ | refine D.loadE hE T5 rfl rfl (by rfl) rfl ?_ | refine D.load hE T5 rfl rfl rfl rfl ?_
    refine D.convQ (q := k) hE T5 T3 rfl rfl (wrap_i64 (by omega) (by omega)) rfl ?_
    refine D.move rfl rfl ?_
    refine D.index (el := .int .u8 m1) hE T27 rfl T5 rfl rfl newest_pv rfl (by omega) hx1 rfl rfl rfl ?_
    first | refine D.loadS hE T5 rfl rfl rfl (by rfl) rfl ?_ | refine D.loadE hE T5 rfl rfl (by rfl) rfl ?_ | refine D.load hE T5 rfl rfl rfl rfl ?_
    refine D.convQ (q := m1) hE T5 T3 rfl rfl (wrap_i64 (by omega) (by omega)) rfl ?_
    refine D.shlQ rfl rfl (by omega) hs8 rfl ?_
    refine D.move rfl rfl ?_
    refine D.index (el := .int .u8 m2) hE T27 rfl T5 rfl rfl newest_pv rfl (by omega) hx2 rfl rfl rfl ?_
    first | refine D.loadS hE T5 rfl rfl rfl (by rfl) rfl ?_ | refine D.loadE hE T5 rfl rfl (by rfl) rfl ?_ | refine D.load hE T5 rfl rfl rfl rfl ?_
    refine D.convQ (q := m2) hE T5 T3 rfl rfl (wrap_i64 (by omega) (by omega)) rfl ?_
    refine D.bit rfl rfl hor rfl ?_
    refine D.assign rfl rfl ?_
    refine D.assign rfl rfl ?_
    refine Dr.nil ?_
    refine ⟨rfl, ?_⟩
    try refine Run.keep [0, 2, 3, 4, 5, 6, 7, 8, 9, 12, 38, 42, 43, 44, 47, 68, 79, 94] rfl rfl ?_
    repeat (first | refine Run.seq ?_ | refine Run.skip ?_ | refine Run.block ?_)
    refine Run.region ?_
    refine O.move rfl rfl ?_
    refine O.slice (ys := R.map (PV.int .u8)) hE T27 rfl T5 rfl rfl newest_pv rfl rfl rfl (by omega) (by simp only [hXm0]; omega) (Int.le_refl _) hy3 rfl ?_
    refine O.assign rfl rfl ?_
    refine O.nil ?_
    try refine Run.keep [0, 2, 3, 4, 5, 6, 7, 8, 9, 12, 38, 42, 43, 44, 47, 68, 79, 94] rfl rfl ?_
    repeat (first | refine Run.seq ?_ | refine Run.skip ?_ | refine Run.block ?_)
    refine Run.region ?_
    refine O.move rfl rfl ?_
    refine O.lenN hE T27 rfl rfl rfl newest_pv hRm rfl ?_
    refine O.move rfl rfl ?_
    first | refine O.cmp rfl rfl rfl (by first | exact decide_eq_true (by omega) | exact decide_eq_false (by omega)) rfl ?_ | refine O.cmp rfl rfl rfl rfl rfl ?_
    refine O.nil ?_
    try refine Run.keep [0, 2, 3, 4, 5, 6, 7, 8, 9, 12, 38, 42, 43, 44, 47, 68, 79, 94] rfl rfl ?_
    repeat (first | refine Run.seq ?_ | refine Run.skip ?_)
    first | refine Run.condT rfl rfl ?_ | refine Run.condF rfl rfl ?_ | refine Run.condT rfl (by assumption) ?_ | refine Run.condF rfl (by assumption) ?_
    repeat (first | refine Run.seq ?_ | refine Run.skip ?_ | refine Run.block ?_)
    refine Run.region ?_
    refine O.move rfl rfl ?_
    refine O.move rfl rfl ?_
    refine O.slice (ys := Q.map (PV.int .u8)) hE T27 rfl T5 rfl rfl newest_pv rfl rfl rfl (by omega) (by omega) (by simp only [List.length_map]; omega) hz1 rfl ?_
    refine O.move rfl rfl ?_
    refine O.callE cd rfl (by first | rfl | simp [closed, men3, mens2_app, mens2_ints, mens2, men2, men1, mens1_app, mens1_ints, mens1]) (by first | rfl | simp [d2, ds1_ints, ds1_app, ds1, d1, ds0_app, ds0_ints, ds0, d0]) rfl ?_
    refine O.move rfl rfl ?_
    refine O.extract rfl rfl rfl ?_
    refine O.extract rfl rfl rfl ?_
    refine O.assign rfl rfl ?_
    refine O.assign rfl rfl ?_
    refine O.nil ?_
    try refine Run.keep [0, 2, 3, 4, 5, 6, 7, 8, 9, 12, 38, 42, 43, 44, 47, 68, 79, 94] rfl rfl ?_
    repeat (first | refine Run.seq ?_ | refine Run.skip ?_ | refine Run.block ?_)
    refine Run.region ?_
    refine O.move rfl rfl ?_
    first | refine O.cmp rfl rfl rfl (by first | exact decide_eq_true (by omega) | exact decide_eq_false (by omega)) rfl ?_ | refine O.cmp rfl rfl rfl rfl rfl ?_
    refine O.nil ?_
    try refine Run.keep [0, 2, 3, 4, 5, 6, 7, 8, 9, 12, 38, 42, 43, 44, 47, 68, 79, 94] rfl rfl ?_
    repeat (first | refine Run.seq ?_ | refine Run.skip ?_)
    first | refine Run.condT rfl rfl ?_ | refine Run.condF rfl rfl ?_ | refine Run.condT rfl (by assumption) ?_ | refine Run.condF rfl (by assumption) ?_
    repeat (first | refine Run.seq ?_ | refine Run.skip ?_ | refine Run.block ?_)
    refine Run.region ?_
    refine O.field hE L36 rfl rfl rfl rfl ?_
    first | refine O.loadS hE T34 rfl rfl rfl (by rfl) rfl ?_ | refine O.loadE hE T34 rfl rfl (by rfl) rfl ?_ | refine O.load hE T34 rfl rfl rfl rfl ?_
    refine O.move rfl rfl ?_
    refine O.litV (xs := [vs].map rowE) hE T34 rfl T37 rfl rfl rfl rfl rfl rfl rfl ?_
    refine O.appV rowE (q := T) (r := [vs]) hE T34 rfl T37 rfl rfl rfl rfl rfl newest_pv rfl rfl rfl rfl (by simp; omega) (by simp [maxLen]; omega) rfl ?_
    refine O.field hE L36 rfl rfl rfl rfl ?_
    refine O.store hE T34 rfl rfl rfl rfl rfl rfl ?_
    refine O.nil ?_
    try refine Run.keep [0, 2, 3, 4, 5, 6, 7, 8, 9, 12, 38, 42, 43, 44, 47, 68, 79, 94] rfl rfl ?_
    repeat (first | refine Run.seq ?_ | refine Run.skip ?_ | refine Run.block ?_)
    refine Run.region ?_
    refine O.move rfl rfl ?_
    refine O.move rfl rfl ?_
    refine O.slice (ys := N.map (PV.int .u8)) hE T27 rfl T5 rfl rfl newest_pv rfl rfl rfl (by omega) (by simp only [List.length_map]; omega) (Int.le_refl _) hz2 rfl ?_
    refine O.assign rfl rfl ?_
    refine O.nil ?_
    try refine Run.keep [0, 2, 3, 4, 5, 6, 7, 8, 9, 12, 38, 42, 43, 44, 47, 68, 79, 94] rfl rfl ?_
    repeat (first | refine Run.seq ?_ | refine Run.skip ?_ | refine Run.block ?_)
    refine Run.region ?_
    first | refine O.ar rfl rfl rfl (by exact wrap_i64 (by omega) (by omega)) rfl ?_ | refine O.ar rfl rfl rfl rfl rfl ?_
    refine O.move rfl rfl ?_
    refine O.nil ?_
    try refine Run.keep [0, 2, 3, 4, 5, 6, 7, 8, 9, 12, 38, 42, 43, 44, 47, 68, 79, 94] rfl rfl ?_
    refine ih (j + 1) _ ?_ (by omega) (by omega)
    rw [e1, hN]
    exact SLe.drop (by repeat (first | exact TmIn.nil | refine TmIn.cons rfl ?_)) (by repeat (first | exact BxIn.nil | refine BxIn.cons rfl ?_)) rfl rfl
  obtain rfl : j = rs.length := by omega
  clear ih
  rw [List.drop_length, List.take_length, rowsP, List.nil_append] at *
  cases hF with
  | ok h0 =>
    rw [show tolR e c rs 0 = .tup [rplA e c rs, .pv (.int .i64 0)] from rfl]
    repeat (first | refine Run.seq ?_ | refine Run.skip ?_ | refine Run.block ?_)
    refine Run.region ?_
    first | refine O.cmp rfl rfl rfl (by first | exact decide_eq_true (by omega) | exact decide_eq_false (by omega)) rfl ?_ | refine O.cmp rfl rfl rfl rfl rfl ?_
    refine O.nil ?_
    try refine Run.keep [0, 2, 3, 4, 5, 6, 7, 8, 9, 12, 38, 42, 43, 44, 47, 68, 79, 94] rfl rfl ?_
    repeat (first | refine Run.seq ?_ | refine Run.skip ?_)
    first | refine Run.condT rfl rfl ?_ | refine Run.condF rfl rfl ?_ | refine Run.condT rfl (by assumption) ?_ | refine Run.condF rfl (by assumption) ?_
    refine Run.exit ?_
    repeat (first | refine thenR_exit ?_ | refine roundR_exit ?_ | refine blockR_exit ?_ | refine blockR_pass rfl ?_)
    repeat (first | refine Run.seq ?_ | refine Run.skip ?_ | refine Run.block ?_)
    refine Run.region ?_
    refine O.move rfl rfl ?_
    refine O.lenN (m := 0) hE T27 rfl rfl rfl newest_pv rfl rfl ?_
    first | refine O.cmp rfl rfl rfl (by first | exact decide_eq_true (by omega) | exact decide_eq_false (by omega)) rfl ?_ | refine O.cmp rfl rfl rfl rfl rfl ?_
    refine O.nil ?_
    try refine Run.keep [0, 2, 3, 4, 5, 6, 7, 8, 9, 12, 38, 42, 43, 44, 47, 68, 79, 94] rfl rfl ?_
    repeat (first | refine Run.seq ?_ | refine Run.skip ?_)
    first | refine Run.condT rfl rfl ?_ | refine Run.condF rfl rfl ?_ | refine Run.condT rfl (by assumption) ?_ | refine Run.condF rfl (by assumption) ?_
    refine Run.pre (s1 := ⟨97, [(2, .ptr 2 0), (4, .ptr 4 0)], [(4, .var [.pv (.int .i64 e), .pv (.int .i64 c), .pv (.lst 1 (rs.map rowE))]), (2, .var [.pv (.int .i64 0), .pv (.int .i64 0), .pv .nil])]⟩) ?_ ?_
    ·
      refine SLe.by rfl ?_ ?_ rfl rfl
      · exact TmLe.cons (AVle.of_eq rfl) (TmLe.cons (AVle.of_eq rfl) .nil)
      · exact BxsLe.cons rfl (.var (.cons (AVle.of_eq rfl) (.cons (AVle.of_eq rfl) (.cons (AVle.lst _ _ _ (lstOf_glV (e := 37) rfl (by simp))) .nil)))) (BxsLe.cons rfl (.refl _) .nil)
    repeat (first | refine Run.seq ?_ | refine Run.skip ?_ | refine Run.block ?_)
    refine Run.region ?_
    refine O.load hE T36 rfl rfl rfl rfl ?_
    refine O.store hE T36 rfl rfl rfl rfl rfl rfl ?_
    refine O.assign rfl rfl ?_
    refine O.nil ?_
    try refine Run.keep [0, 2, 3, 4, 5, 6, 7, 8, 9, 12, 38, 42, 43, 44, 47, 68, 79, 94] rfl rfl ?_
    refine Run.ret ?_
    exact Ends.of hE (.inr rfl) rfl rfl (SLe.drop (by repeat (first | exact TmIn.nil | refine TmIn.cons rfl ?_)) (by repeat (first | exact BxIn.nil | refine BxIn.cons rfl ?_)) rfl rfl)
  | form z t h0 =>
    rw [show tolR e c rs 3 = .tup [.agg [.pv (.int .i64 0), .pv (.int .i64 0), .pv .nil], .pv (.int .i64 3)] from rfl]
    have hzm : ((((z :: t).map (PV.int .u8)).length : Nat) : Int) = 1 + t.length := by simp; omega
    repeat (first | refine Run.seq ?_ | refine Run.skip ?_ | refine Run.block ?_)
    refine Run.region ?_
    first | refine O.cmp rfl rfl rfl (by first | exact decide_eq_true (by omega) | exact decide_eq_false (by omega)) rfl ?_ | refine O.cmp rfl rfl rfl rfl rfl ?_
    refine O.nil ?_
    try refine Run.keep [0, 2, 3, 4, 5, 6, 7, 8, 9, 12, 38, 42, 43, 44, 47, 68, 79, 94] rfl rfl ?_
    repeat (first | refine Run.seq ?_ | refine Run.skip ?_)
    first | refine Run.condT rfl rfl ?_ | refine Run.condF rfl rfl ?_ | refine Run.condT rfl (by assumption) ?_ | refine Run.condF rfl (by assumption) ?_
    refine Run.exit ?_
    repeat (first | refine thenR_exit ?_ | refine roundR_exit ?_ | refine blockR_exit ?_ | refine blockR_pass rfl ?_)
    repeat (first | refine Run.seq ?_ | refine Run.skip ?_ | refine Run.block ?_)
    refine Run.region ?_
    refine O.move rfl rfl ?_
    refine O.lenN hE T27 rfl rfl rfl newest_pv hzm rfl ?_
    first | refine O.cmp rfl rfl rfl (by first | exact decide_eq_true (by omega) | exact decide_eq_false (by omega)) rfl ?_ | refine O.cmp rfl rfl rfl rfl rfl ?_
    refine O.nil ?_
    try refine Run.keep [0, 2, 3, 4, 5, 6, 7, 8, 9, 12, 38, 42, 43, 44, 47, 68, 79, 94] rfl rfl ?_
    repeat (first | refine Run.seq ?_ | refine Run.skip ?_)
    first | refine Run.condT rfl rfl ?_ | refine Run.condF rfl rfl ?_ | refine Run.condT rfl (by assumption) ?_ | refine Run.condF rfl (by assumption) ?_
    repeat (first | refine Run.seq ?_ | refine Run.skip ?_ | refine Run.block ?_)
    refine Run.region ?_
    refine O.build hE T36 L36 rfl rfl rfl ?_
    refine O.store hE T36 rfl rfl rfl rfl rfl rfl ?_
    refine O.assign rfl rfl ?_
    refine O.nil ?_
    try refine Run.keep [0, 2, 3, 4, 5, 6, 7, 8, 9, 12, 38, 42, 43, 44, 47, 68, 79, 94] rfl rfl ?_
    refine Run.ret ?_
    exact Ends.of hE (.inr rfl) rfl rfl (SLe.drop (by repeat (first | exact TmIn.nil | refine TmIn.cons rfl ?_)) (by repeat (first | exact BxIn.nil | refine BxIn.cons rfl ?_)) rfl rfl)
  | short _ h0 h3 =>
    rw [show tolR e c rs 4 = .tup [.agg [.pv (.int .i64 0), .pv (.int .i64 0), .pv .nil], .pv (.int .i64 4)] from rfl]
    have hXm : (((tail.map (PV.int .u8)).length : Nat) : Int) = tail.length := by simp
    repeat (first | refine Run.seq ?_ | refine Run.skip ?_ | refine Run.block ?_)
    refine Run.region ?_
    first | refine O.cmp rfl rfl rfl (by first | exact decide_eq_true (by omega) | exact decide_eq_false (by omega)) rfl ?_ | refine O.cmp rfl rfl rfl rfl rfl ?_
    refine O.nil ?_
    try refine Run.keep [0, 2, 3, 4, 5, 6, 7, 8, 9, 12, 38, 42, 43, 44, 47, 68, 79, 94] rfl rfl ?_
    repeat (first | refine Run.seq ?_ | refine Run.skip ?_)
    first | refine Run.condT rfl rfl ?_ | refine Run.condF rfl rfl ?_ | refine Run.condT rfl (by assumption) ?_ | refine Run.condF rfl (by assumption) ?_
    repeat (first | refine Run.seq ?_ | refine Run.skip ?_ | refine Run.block ?_)
    refine Run.region ?_
    refine O.move rfl rfl ?_
    refine O.lenN hE T27 rfl rfl rfl newest_pv hXm rfl ?_
    first | refine O.cmp rfl rfl rfl (by first | exact decide_eq_true (by omega) | exact decide_eq_false (by omega)) rfl ?_ | refine O.cmp rfl rfl rfl rfl rfl ?_
    refine O.nil ?_
    try refine Run.keep [0, 2, 3, 4, 5, 6, 7, 8, 9, 12, 38, 42, 43, 44, 47, 68, 79, 94] rfl rfl ?_
    repeat (first | refine Run.seq ?_ | refine Run.skip ?_)
    first | refine Run.condT rfl rfl ?_ | refine Run.condF rfl rfl ?_ | refine Run.condT rfl (by assumption) ?_ | refine Run.condF rfl (by assumption) ?_
    repeat (first | refine Run.seq ?_ | refine Run.skip ?_ | refine Run.block ?_)
    refine Run.region ?_
    refine O.build hE T36 L36 rfl rfl rfl ?_
    refine O.store hE T36 rfl rfl rfl rfl rfl rfl ?_
    refine O.assign rfl rfl ?_
    refine O.nil ?_
    try refine Run.keep [0, 2, 3, 4, 5, 6, 7, 8, 9, 12, 38, 42, 43, 44, 47, 68, 79, 94] rfl rfl ?_
    refine Run.ret ?_
    exact Ends.of hE (.inr rfl) rfl rfl (SLe.drop (by repeat (first | exact TmIn.nil | refine TmIn.cons rfl ?_)) (by repeat (first | exact BxIn.nil | refine BxIn.cons rfl ?_)) rfl rfl)
  | cut k m1 m2 R h0 hcut =>
    rw [show tolR e c rs 4 = .tup [.agg [.pv (.int .i64 0), .pv (.int .i64 0), .pv .nil], .pv (.int .i64 4)] from rfl]
    have b0 := ht k (by simp)
    have b1 := ht m1 (by simp)
    have b2 := ht m2 (by simp)
    have hRl : R.length ≤ 9223372036854775804 := by simp only [List.length_cons] at hs0; omega
    have hs8 : IntKind.i64.wrap (m1 * 2 ^ (min (Int.toNat 8) IntKind.i64.bits)) = m1 * 256 := by
      rw [show min (Int.toNat 8) IntKind.i64.bits = 8 from rfl, show (2 : Int) ^ 8 = 256 from by decide]
      exact wrap_i64 (by omega) (by omega)
    have hor := or_i64 (x := m1) (c := m2) (by omega) (by omega)
    have hXm0 : ((k :: m1 :: m2 :: R).map (PV.int .u8)).length = 3 + R.length := by simp; omega
    have hXm : ((((k :: m1 :: m2 :: R).map (PV.int .u8)).length : Nat) : Int) = 3 + R.length := by rw [hXm0]; omega
    have hx0 : ((k :: m1 :: m2 :: R).map (PV.int .u8))[(0 : Int).toNat]? = some (.int .u8 k) := rfl
    have hx1 : ((k :: m1 :: m2 :: R).map (PV.int .u8))[(1 : Int).toNat]? = some (.int .u8 m1) := rfl
    have hx2 : ((k :: m1 :: m2 :: R).map (PV.int .u8))[(2 : Int).toNat]? = some (.int .u8 m2) := rfl
    have hy3 : ((((k :: m1 :: m2 :: R).map (PV.int .u8)).take ((k :: m1 :: m2 :: R).map (PV.int .u8)).length).drop (3 : Int).toNat) = R.map (PV.int .u8) := by rw [List.take_length]; rfl
    have hRm : (((R.map (PV.int .u8)).length : Nat) : Int) = R.length := by simp
    repeat (first | refine Run.seq ?_ | refine Run.skip ?_ | refine Run.block ?_)
    refine Run.region ?_
    first | refine O.cmp rfl rfl rfl (by first | exact decide_eq_true (by omega) | exact decide_eq_false (by omega)) rfl ?_ | refine O.cmp rfl rfl rfl rfl rfl ?_
    refine O.nil ?_
    try refine Run.keep [0, 2, 3, 4, 5, 6, 7, 8, 9, 12, 38, 42, 43, 44, 47, 68, 79, 94] rfl rfl ?_
    repeat (first | refine Run.seq ?_ | refine Run.skip ?_)
    first | refine Run.condT rfl rfl ?_ | refine Run.condF rfl rfl ?_ | refine Run.condT rfl (by assumption) ?_ | refine Run.condF rfl (by assumption) ?_
    repeat (first | refine Run.seq ?_ | refine Run.skip ?_ | refine Run.block ?_)
    refine Run.region ?_
    refine O.move rfl rfl ?_
    refine O.lenN hE T27 rfl rfl rfl newest_pv hXm rfl ?_
    first | refine O.cmp rfl rfl rfl (by first | exact decide_eq_true (by omega) | exact decide_eq_false (by omega)) rfl ?_ | refine O.cmp rfl rfl rfl rfl rfl ?_
    refine O.nil ?_
    try refine Run.keep [0, 2, 3, 4, 5, 6, 7, 8, 9, 12, 38, 42, 43, 44, 47, 68, 79, 94] rfl rfl ?_
    repeat (first | refine Run.seq ?_ | refine Run.skip ?_)
    first | refine Run.condT rfl rfl ?_ | refine Run.condF rfl rfl ?_ | refine Run.condT rfl (by assumption) ?_ | refine Run.condF rfl (by assumption) ?_
    repeat (first | refine Run.seq ?_ | refine Run.skip ?_ | refine Run.block ?_)
    refine Run.draw mixed rfl ?_
    refine D.move rfl rfl ?_
    refine D.index (el := .int .u8 k) hE T27 rfl T5 rfl rfl newest_pv rfl (by omega) hx0 rfl rfl rfl ?_
    first | refine D.loadS hE T5 rfl rfl rfl (by rfl) rfl ?_ | refine D.loadE hE T5 rfl rfl (by rfl) rfl ?_ | refine D.load hE T5 rfl rfl rfl rfl ?_
    refine D.convQ (q := k) hE T5 T3 rfl rfl (wrap_i64 (by omega) (by omega)) rfl ?_
    refine D.move rfl rfl ?_
    refine D.index (el := .int .u8 m1) hE T27 rfl T5 rfl rfl newest_pv rfl (by omega) hx1 rfl rfl rfl ?_
    first | refine D.loadS hE T5 rfl rfl rfl (by rfl) rfl ?_ | refine D.loadE hE T5 rfl rfl (by rfl) rfl ?_ | refine D.load hE T5 rfl rfl rfl rfl ?_
    refine D.convQ (q := m1) hE T5 T3 rfl rfl (wrap_i64 (by omega) (by omega)) rfl ?_
    refine D.shlQ rfl rfl (by omega) hs8 rfl ?_
    refine D.move rfl rfl ?_
    refine D.index (el := .int .u8 m2) hE T27 rfl T5 rfl rfl newest_pv rfl (by omega) hx2 rfl rfl rfl ?_
    first | refine D.loadS hE T5 rfl rfl rfl (by rfl) rfl ?_ | refine D.loadE hE T5 rfl rfl (by rfl) rfl ?_ | refine D.load hE T5 rfl rfl rfl rfl ?_
    refine D.convQ (q := m2) hE T5 T3 rfl rfl (wrap_i64 (by omega) (by omega)) rfl ?_
    refine D.bit rfl rfl hor rfl ?_
    refine D.assign rfl rfl ?_
    refine D.assign rfl rfl ?_
    refine Dr.nil ?_
    refine ⟨rfl, ?_⟩
    try refine Run.keep [0, 2, 3, 4, 5, 6, 7, 8, 9, 12, 38, 42, 43, 44, 47, 68, 79, 94] rfl rfl ?_
    repeat (first | refine Run.seq ?_ | refine Run.skip ?_ | refine Run.block ?_)
    refine Run.region ?_
    refine O.move rfl rfl ?_
    refine O.slice (ys := R.map (PV.int .u8)) hE T27 rfl T5 rfl rfl newest_pv rfl rfl rfl (by omega) (by simp only [hXm0]; omega) (Int.le_refl _) hy3 rfl ?_
    refine O.assign rfl rfl ?_
    refine O.nil ?_
    try refine Run.keep [0, 2, 3, 4, 5, 6, 7, 8, 9, 12, 38, 42, 43, 44, 47, 68, 79, 94] rfl rfl ?_
    repeat (first | refine Run.seq ?_ | refine Run.skip ?_ | refine Run.block ?_)
    refine Run.region ?_
    refine O.move rfl rfl ?_
    refine O.lenN hE T27 rfl rfl rfl newest_pv hRm rfl ?_
    refine O.move rfl rfl ?_
    first | refine O.cmp rfl rfl rfl (by first | exact decide_eq_true (by omega) | exact decide_eq_false (by omega)) rfl ?_ | refine O.cmp rfl rfl rfl rfl rfl ?_
    refine O.nil ?_
    try refine Run.keep [0, 2, 3, 4, 5, 6, 7, 8, 9, 12, 38, 42, 43, 44, 47, 68, 79, 94] rfl rfl ?_
    repeat (first | refine Run.seq ?_ | refine Run.skip ?_)
    first | refine Run.condT rfl rfl ?_ | refine Run.condF rfl rfl ?_ | refine Run.condT rfl (by assumption) ?_ | refine Run.condF rfl (by assumption) ?_
    repeat (first | refine Run.seq ?_ | refine Run.skip ?_ | refine Run.block ?_)
    refine Run.region ?_
    refine O.build hE T36 L36 rfl rfl rfl ?_
    refine O.store hE T36 rfl rfl rfl rfl rfl rfl ?_
    refine O.assign rfl rfl ?_
    refine O.nil ?_
    try refine Run.keep [0, 2, 3, 4, 5, 6, 7, 8, 9, 12, 38, 42, 43, 44, 47, 68, 79, 94] rfl rfl ?_
    refine Run.ret ?_
    exact Ends.of hE (.inr rfl) rfl rfl (SLe.drop (by repeat (first | exact TmIn.nil | refine TmIn.cons rfl ?_)) (by repeat (first | exact BxIn.nil | refine BxIn.cons rfl ?_)) rfl rfl)
  | dec k m1 m2 R x h0 hle hx cd =>
    rw [show tolR e c rs x = .tup [.agg [.pv (.int .i64 0), .pv (.int .i64 0), .pv .nil], .pv (.int .i64 x)] by unfold tolR; rw [if_neg hx]]
    have b0 := ht k (by simp)
    have b1 := ht m1 (by simp)
    have b2 := ht m2 (by simp)
    have hRl : R.length ≤ 9223372036854775804 := by simp only [List.length_cons] at hs0; omega
    have hz1 : (((R.map (PV.int .u8)).take (m1 * 256 + m2).toNat).drop (0 : Int).toNat) = (R.take (m1 * 256 + m2).toNat).map (PV.int .u8) := by rw [List.map_take]; rfl
    have hs8 : IntKind.i64.wrap (m1 * 2 ^ (min (Int.toNat 8) IntKind.i64.bits)) = m1 * 256 := by
      rw [show min (Int.toNat 8) IntKind.i64.bits = 8 from rfl, show (2 : Int) ^ 8 = 256 from by decide]
      exact wrap_i64 (by omega) (by omega)
    have hor := or_i64 (x := m1) (c := m2) (by omega) (by omega)
    have hXm0 : ((k :: m1 :: m2 :: R).map (PV.int .u8)).length = 3 + R.length := by simp; omega
    have hXm : ((((k :: m1 :: m2 :: R).map (PV.int .u8)).length : Nat) : Int) = 3 + R.length := by rw [hXm0]; omega
    have hx0 : ((k :: m1 :: m2 :: R).map (PV.int .u8))[(0 : Int).toNat]? = some (.int .u8 k) := rfl
    have hx1 : ((k :: m1 :: m2 :: R).map (PV.int .u8))[(1 : Int).toNat]? = some (.int .u8 m1) := rfl
    have hx2 : ((k :: m1 :: m2 :: R).map (PV.int .u8))[(2 : Int).toNat]? = some (.int .u8 m2) := rfl
    have hy3 : ((((k :: m1 :: m2 :: R).map (PV.int .u8)).take ((k :: m1 :: m2 :: R).map (PV.int .u8)).length).drop (3 : Int).toNat) = R.map (PV.int .u8) := by rw [List.take_length]; rfl
    have hRm : (((R.map (PV.int .u8)).length : Nat) : Int) = R.length := by simp
    repeat (first | refine Run.seq ?_ | refine Run.skip ?_ | refine Run.block ?_)
    refine Run.region ?_
    first | refine O.cmp rfl rfl rfl (by first | exact decide_eq_true (by omega) | exact decide_eq_false (by omega)) rfl ?_ | refine O.cmp rfl rfl rfl rfl rfl ?_
    refine O.nil ?_
    try refine Run.keep [0, 2, 3, 4, 5, 6, 7, 8, 9, 12, 38, 42, 43, 44, 47, 68, 79, 94] rfl rfl ?_
    repeat (first | refine Run.seq ?_ | refine Run.skip ?_)
    first | refine Run.condT rfl rfl ?_ | refine Run.condF rfl rfl ?_ | refine Run.condT rfl (by assumption) ?_ | refine Run.condF rfl (by assumption) ?_
    repeat (first | refine Run.seq ?_ | refine Run.skip ?_ | refine Run.block ?_)
    refine Run.region ?_
    refine O.move rfl rfl ?_
    refine O.lenN hE T27 rfl rfl rfl newest_pv hXm rfl ?_
    first | refine O.cmp rfl rfl rfl (by first | exact decide_eq_true (by omega) | exact decide_eq_false (by omega)) rfl ?_ | refine O.cmp rfl rfl rfl rfl rfl ?_
    refine O.nil ?_
    try refine Run.keep [0, 2, 3, 4, 5, 6, 7, 8, 9, 12, 38, 42, 43, 44, 47, 68, 79, 94] rfl rfl ?_
    repeat (first | refine Run.seq ?_ | refine Run.skip ?_)
    first | refine Run.condT rfl rfl ?_ | refine Run.condF rfl rfl ?_ | refine Run.condT rfl (by assumption) ?_ | refine Run.condF rfl (by assumption) ?_
    repeat (first | refine Run.seq ?_ | refine Run.skip ?_ | refine Run.block ?_)
    refine Run.draw mixed rfl ?_
    refine D.move rfl rfl ?_
    refine D.index (el := .int .u8 k) hE T27 rfl T5 rfl rfl newest_pv rfl (by omega) hx0 rfl rfl rfl ?_
    first | refine D.loadS hE T5 rfl rfl rfl (by rfl) rfl ?_ | refine D.loadE hE T5 rfl rfl (by rfl) rfl ?_ | refine D.load hE T5 rfl rfl rfl rfl ?_
    refine D.convQ (q := k) hE T5 T3 rfl rfl (wrap_i64 (by omega) (by omega)) rfl ?_
    refine D.move rfl rfl ?_
    refine D.index (el := .int .u8 m1) hE T27 rfl T5 rfl rfl newest_pv rfl (by omega) hx1 rfl rfl rfl ?_
    first | refine D.loadS hE T5 rfl rfl rfl (by rfl) rfl ?_ | refine D.loadE hE T5 rfl rfl (by rfl) rfl ?_ | refine D.load hE T5 rfl rfl rfl rfl ?_
    refine D.convQ (q := m1) hE T5 T3 rfl rfl (wrap_i64 (by omega) (by omega)) rfl ?_
    refine D.shlQ rfl rfl (by omega) hs8 rfl ?_
    refine D.move rfl rfl ?_
    refine D.index (el := .int .u8 m2) hE T27 rfl T5 rfl rfl newest_pv rfl (by omega) hx2 rfl rfl rfl ?_
    first | refine D.loadS hE T5 rfl rfl rfl (by rfl) rfl ?_ | refine D.loadE hE T5 rfl rfl (by rfl) rfl ?_ | refine D.load hE T5 rfl rfl rfl rfl ?_
    refine D.convQ (q := m2) hE T5 T3 rfl rfl (wrap_i64 (by omega) (by omega)) rfl ?_
    refine D.bit rfl rfl hor rfl ?_
    refine D.assign rfl rfl ?_
    refine D.assign rfl rfl ?_
    refine Dr.nil ?_
    refine ⟨rfl, ?_⟩
    try refine Run.keep [0, 2, 3, 4, 5, 6, 7, 8, 9, 12, 38, 42, 43, 44, 47, 68, 79, 94] rfl rfl ?_
    repeat (first | refine Run.seq ?_ | refine Run.skip ?_ | refine Run.block ?_)
    refine Run.region ?_
    refine O.move rfl rfl ?_
    refine O.slice (ys := R.map (PV.int .u8)) hE T27 rfl T5 rfl rfl newest_pv rfl rfl rfl (by omega) (by simp only [hXm0]; omega) (Int.le_refl _) hy3 rfl ?_
    refine O.assign rfl rfl ?_
    refine O.nil ?_
    try refine Run.keep [0, 2, 3, 4, 5, 6, 7, 8, 9, 12, 38, 42, 43, 44, 47, 68, 79, 94] rfl rfl ?_
    repeat (first | refine Run.seq ?_ | refine Run.skip ?_ | refine Run.block ?_)
    refine Run.region ?_
    refine O.move rfl rfl ?_
    refine O.lenN hE T27 rfl rfl rfl newest_pv hRm rfl ?_
    refine O.move rfl rfl ?_
    first | refine O.cmp rfl rfl rfl (by first | exact decide_eq_true (by omega) | exact decide_eq_false (by omega)) rfl ?_ | refine O.cmp rfl rfl rfl rfl rfl ?_
    refine O.nil ?_
    try refine Run.keep [0, 2, 3, 4, 5, 6, 7, 8, 9, 12, 38, 42, 43, 44, 47, 68, 79, 94] rfl rfl ?_
    repeat (first | refine Run.seq ?_ | refine Run.skip ?_)
    first | refine Run.condT rfl rfl ?_ | refine Run.condF rfl rfl ?_ | refine Run.condT rfl (by assumption) ?_ | refine Run.condF rfl (by assumption) ?_
    generalize R.take (m1 * 256 + m2).toNat = Q at *
    repeat (first | refine Run.seq ?_ | refine Run.skip ?_ | refine Run.block ?_)
    refine Run.region ?_
    refine O.move rfl rfl ?_
    refine O.move rfl rfl ?_
    refine O.slice (ys := Q.map (PV.int .u8)) hE T27 rfl T5 rfl rfl newest_pv rfl rfl rfl (by omega) (by omega) (by simp only [List.length_map]; omega) hz1 rfl ?_
    refine O.move rfl rfl ?_
    refine O.callE cd rfl (by first | rfl | simp [closed, men3, mens2_app, mens2_ints, mens2, men2, men1, mens1_app, mens1_ints, mens1]) (by first | rfl | simp [d2, ds1_ints, ds1_app, ds1, d1, ds0_app, ds0_ints, ds0, d0]) rfl ?_
    refine O.move rfl rfl ?_
    refine O.extract rfl rfl rfl ?_
    refine O.extract rfl rfl rfl ?_
    refine O.assign rfl rfl ?_
    refine O.assign rfl rfl ?_
    refine O.nil ?_
    try refine Run.keep [0, 2, 3, 4, 5, 6, 7, 8, 9, 12, 38, 42, 43, 44, 47, 68, 79, 94] rfl rfl ?_
    repeat (first | refine Run.seq ?_ | refine Run.skip ?_ | refine Run.block ?_)
    refine Run.region ?_
    refine O.move rfl rfl ?_
    refine O.cmp (c' := true) rfl rfl rfl (by simpa using hx) rfl ?_
    refine O.nil ?_
    try refine Run.keep [0, 2, 3, 4, 5, 6, 7, 8, 9, 12, 38, 42, 43, 44, 47, 68, 79, 94] rfl rfl ?_
    repeat (first | refine Run.seq ?_ | refine Run.skip ?_)
    first | refine Run.condT rfl rfl ?_ | refine Run.condF rfl rfl ?_ | refine Run.condT rfl (by assumption) ?_ | refine Run.condF rfl (by assumption) ?_
    repeat (first | refine Run.seq ?_ | refine Run.skip ?_ | refine Run.block ?_)
    refine Run.region ?_
    refine O.build hE T36 L36 rfl rfl rfl ?_
    refine O.move rfl rfl ?_
    refine O.store hE T36 rfl rfl rfl rfl rfl rfl ?_
    refine O.assign rfl rfl ?_
    refine O.nil ?_
    try refine Run.keep [0, 2, 3, 4, 5, 6, 7, 8, 9, 12, 38, 42, 43, 44, 47, 68, 79, 94] rfl rfl ?_
    refine Run.ret ?_
    exact Ends.of hE (.inr rfl) rfl rfl (SLe.drop (by repeat (first | exact TmIn.nil | refine TmIn.cons rfl ?_)) (by repeat (first | exact BxIn.nil | refine BxIn.cons rfl ?_)) rfl rfl)
end Go.Proofs.YtalcpfpjkfpmbaaDoor.Vm
