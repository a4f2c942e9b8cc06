/- What is done to values in an expression: numbers reckoned. Conditions: none. -/
import Derived.Test.YtlcmnhocicehmaaDoorKindQ
import Derived.Lib.RuneCount
import Derived.Test.YtlcmnhocicehmaaDoorKindG
import Derived.Test.YtlcmnhocicehmaaDoorLoose
import Derived.Test.YtlcmnhocicehmaaDoorExecT
section
section
namespace Go.Proofs.YtlcmnhocicehmaaDoor.Vm
open Go Go.RowKit Go.Lib
set_option linter.unusedVariables false
set_option linter.unusedSimpArgs false
def vB (b : Bool) : Vl := ⟨1, if b then 1 else 0, 0, noS⟩
def vN (n : Int) : Vl := ⟨2, n, 0, noS⟩
def vS (s : ByteArray) : Vl := ⟨4, 0, 0, s⟩
/-- The value that a part of truth is. -/
def tru (t : Int) : Vl := if t = 1 then v0 else ⟨1, t / 2, 0, noS⟩
def prt (v : Vl) : Int := if v.kd = 0 then 1 else 2 * v.n
def minP (a b : Int) : Int := if b < a then b else a
def maxP (a b : Int) : Int := if a < b then b else a
def inR (n : Int) : Prop := -9223372036854775808 ≤ n ∧ n ≤ 9223372036854775807
instance (n : Int) : Decidable (inR n) := by unfold inR; infer_instance
/-- What is done to one value. -/
def one1 (op : Int) (v : Vl) : Vl × Int :=
  if op = 17 then (vB (decide (v.kd = 0)), 0) else if v.kd = 0 then (v0, 0) else if op = 4 then (⟨1, 1 - v.n, 0, noS⟩, 0) else if op = 18 then (vN (Lib.runeCount v.s), 0) else if v.n = -9223372036854775808 then (v0, 6) else (vN (-v.n), 0)
/-- Numbers reckoned. -/
def reck (op a b : Int) : Vl × Int :=
  if op = 5 then (if inR (a + b) then (vN (a + b), 0) else (v0, 6)) else if op = 6 then (if inR (a - b) then (vN (a - b), 0) else (v0, 6)) else if op = 7 then (if inR (a * b) then (vN (a * b), 0) else (v0, 6))
  else if b = 0 then (v0, 7) else if inR (a.tdiv b) then (vN (a.tdiv b), 0) else (v0, 6)
def joinP (s t : ByteArray) : Vl × Int := if 40 < s.size + t.size then (v0, 1) else (vS (s ++ t), 0)
theorem wrap_eq {n m : Int} (k : Int) (h : n = m + 18446744073709551616 * k) (hm : inR m) : IntKind.i64.wrap n = m := by
  unfold inR at hm
  rw [IntKind.wrap_i64]
  omega
theorem wrap_in (n : Int) : inR (IntKind.i64.wrap n) ∧ ∃ k, n = IntKind.i64.wrap n + 18446744073709551616 * k := by
  rw [IntKind.wrap_i64]
  unfold inR
  refine ⟨by omega, (n + 9223372036854775808) / 18446744073709551616, by omega⟩
theorem wrap_id {n : Int} (h : inR n) : IntKind.i64.wrap n = n := wrap_eq 0 (by omega) h
theorem tdiv_in {a b : Int} (ha : inR a) (hb : b ≠ 0) (hx : ¬ (a = -9223372036854775808 ∧ b = -1)) : inR (a.tdiv b) := by
  unfold inR at *
  have h1 := Int.natAbs_tdiv_le_natAbs a b
  by_cases hab : a = -9223372036854775808
  · have hb1 : b ≠ -1 := fun e => hx ⟨hab, e⟩
    by_cases hb2 : b = 1
    · subst hb2; rw [Int.tdiv_one]; exact ha
    · have h2 : (a.tdiv b).natAbs = a.natAbs / b.natAbs := Int.natAbs_tdiv a b
      have h3 : 2 ≤ b.natAbs := by omega
      have h4 : a.natAbs / b.natAbs ≤ a.natAbs / 2 := Nat.div_le_div_left h3 (by omega)
      omega
  · omega
theorem mul_ok {a b : Int} (ha : inR a) (hb : b ≠ 0) : IntKind.i64.wrap ((a * b).tdiv b) = a := by
  rw [Int.mul_tdiv_cancel _ hb]
  exact wrap_id ha
theorem mul_bad {a b : Int} (ha : inR a) (hb : inR b) (hb0 : b ≠ 0) (hn : ¬ inR (a * b)) (h1 : ¬ (b = -1 ∧ a = -9223372036854775808)) : IntKind.i64.wrap ((IntKind.i64.wrap (a * b)).tdiv b) ≠ a := by
  obtain ⟨hw, k, hk⟩ := wrap_in (a * b)
  generalize IntKind.i64.wrap (a * b) = W at *
  intro he
  have hk0 : k ≠ 0 := fun e => by
    subst e
    rw [Int.mul_zero, Int.add_zero] at hk
    rw [hk] at hn
    exact hn hw
  by_cases hx : W = -9223372036854775808 ∧ b = -1
  · obtain ⟨rfl, rfl⟩ := hx
    have h2 : (-9223372036854775808 : Int).tdiv (-1) = 9223372036854775808 := by decide
    rw [h2] at he
    have h3 : IntKind.i64.wrap 9223372036854775808 = -9223372036854775808 := by rw [IntKind.wrap_i64]; decide
    rw [h3] at he
    exact h1 ⟨rfl, he.symm⟩
  · rw [wrap_id (tdiv_in hw hb0 hx)] at he
    have h2 := Int.mul_tdiv_add_tmod W b
    rw [he] at h2
    have h3 : (W.tmod b).natAbs < b.natAbs := by
      rw [Int.natAbs_tmod]
      exact Nat.mod_lt _ (by omega)
    rw [Int.mul_comm] at h2
    unfold inR at hb
    omega
end Go.Proofs.YtlcmnhocicehmaaDoor.Vm
end
section
namespace Go.Proofs.YtlcmnhocicehmaaDoor.Vm
open Go Go.RowKit Go.Lib
set_option linter.unusedVariables false
set_option linter.unusedSimpArgs false
attribute [local irreducible] Ops Dr Run
variable {g : Nat → Option (List PV)}
theorem fnTruth {t : Int} (h : t = 0 ∨ t = 1 ∨ t = 2) : FnC (En Tryd.prog g) 103 [.pv (.int .i64 t)] (vlA (tru t)) [] := by
  have hE := EnOk g
  refine FnC.of Tryd.func103 rfl rfl rfl rfl ?_
  rcases h with rfl | rfl | rfl
  ·
    repeat (first | refine Run.seq ?_ | refine Run.skip ?_ | refine Run.block ?_)
    refine Run.region ?_
    refine O.alloc hE 2 T25 rfl rfl rfl ?_
    refine O.nil ?_
    try refine Run.keep [0,2,4] rfl rfl ?_
    repeat (first | refine Run.seq ?_ | refine Run.skip ?_ | refine Run.block ?_)
    refine Run.region ?_
    refine O.move rfl rfl ?_
    first | refine O.cmp rfl rfl rfl (by first | exact dT (by omega) | exact dF (by omega)) rfl ?_ | refine O.cmp rfl rfl rfl rfl rfl ?_
    refine O.nil ?_
    try refine Run.keep [0,2,4] rfl rfl ?_
    repeat (first | refine Run.seq ?_ | refine Run.skip ?_)
    first | refine Run.condT rfl rfl ?_ | refine Run.condF rfl rfl ?_ | refine Run.condT rfl (by assumption) ?_ | refine Run.condF rfl (by assumption) ?_
    repeat (first | refine Run.seq ?_ | refine Run.skip ?_ | refine Run.block ?_)
    refine Run.region ?_
    refine O.move rfl rfl ?_
    first | refine O.quoE rfl rfl (by omega) (by omega) (by exact wrap_i64 (by omega) (by omega)) rfl ?_ | refine O.quo rfl rfl (by omega) rfl ?_
    refine O.build hE T25 L25 rfl rfl rfl ?_
    refine O.store hE T25 rfl rfl rfl rfl rfl rfl ?_
    refine O.nil ?_
    try refine Run.keep [0,2,4] rfl rfl ?_
    (repeat (first | refine Run.seq ?_ | refine Run.skip ?_)); (try refine Run.ret ?_); first | exact Ends.flat hE (.inr rfl) rfl rfl (AVle.of_eq rfl) rfl | exact Ends.flat hE (.inl rfl) rfl rfl (AVle.of_eq rfl) rfl
  ·
    repeat (first | refine Run.seq ?_ | refine Run.skip ?_ | refine Run.block ?_)
    refine Run.region ?_
    refine O.alloc hE 2 T25 rfl rfl rfl ?_
    refine O.nil ?_
    try refine Run.keep [0,2,4] rfl rfl ?_
    repeat (first | refine Run.seq ?_ | refine Run.skip ?_ | refine Run.block ?_)
    refine Run.region ?_
    refine O.move rfl rfl ?_
    first | refine O.cmp rfl rfl rfl (by first | exact dT (by omega) | exact dF (by omega)) rfl ?_ | refine O.cmp rfl rfl rfl rfl rfl ?_
    refine O.nil ?_
    try refine Run.keep [0,2,4] rfl rfl ?_
    repeat (first | refine Run.seq ?_ | refine Run.skip ?_)
    first | refine Run.condT rfl rfl ?_ | refine Run.condF rfl rfl ?_ | refine Run.condT rfl (by assumption) ?_ | refine Run.condF rfl (by assumption) ?_
    repeat (first | refine Run.seq ?_ | refine Run.skip ?_ | refine Run.block ?_)
    refine Run.region ?_
    refine O.build hE T25 L25 rfl rfl rfl ?_
    refine O.store hE T25 rfl rfl rfl rfl rfl rfl ?_
    refine O.nil ?_
    try refine Run.keep [0,2,4] rfl rfl ?_
    (repeat (first | refine Run.seq ?_ | refine Run.skip ?_)); (try refine Run.ret ?_); first | exact Ends.flat hE (.inr rfl) rfl rfl (AVle.of_eq rfl) rfl | exact Ends.flat hE (.inl rfl) rfl rfl (AVle.of_eq rfl) rfl
  ·
    repeat (first | refine Run.seq ?_ | refine Run.skip ?_ | refine Run.block ?_)
    refine Run.region ?_
    refine O.alloc hE 2 T25 rfl rfl rfl ?_
    refine O.nil ?_
    try refine Run.keep [0,2,4] rfl rfl ?_
    repeat (first | refine Run.seq ?_ | refine Run.skip ?_ | refine Run.block ?_)
    refine Run.region ?_
    refine O.move rfl rfl ?_
    first | refine O.cmp rfl rfl rfl (by first | exact dT (by omega) | exact dF (by omega)) rfl ?_ | refine O.cmp rfl rfl rfl rfl rfl ?_
    refine O.nil ?_
    try refine Run.keep [0,2,4] rfl rfl ?_
    repeat (first | refine Run.seq ?_ | refine Run.skip ?_)
    first | refine Run.condT rfl rfl ?_ | refine Run.condF rfl rfl ?_ | refine Run.condT rfl (by assumption) ?_ | refine Run.condF rfl (by assumption) ?_
    repeat (first | refine Run.seq ?_ | refine Run.skip ?_ | refine Run.block ?_)
    refine Run.region ?_
    refine O.move rfl rfl ?_
    first | refine O.quoE rfl rfl (by omega) (by omega) (by exact wrap_i64 (by omega) (by omega)) rfl ?_ | refine O.quo rfl rfl (by omega) rfl ?_
    refine O.build hE T25 L25 rfl rfl rfl ?_
    refine O.store hE T25 rfl rfl rfl rfl rfl rfl ?_
    refine O.nil ?_
    try refine Run.keep [0,2,4] rfl rfl ?_
    (repeat (first | refine Run.seq ?_ | refine Run.skip ?_)); (try refine Run.ret ?_); first | exact Ends.flat hE (.inr rfl) rfl rfl (AVle.of_eq rfl) rfl | exact Ends.flat hE (.inl rfl) rfl rfl (AVle.of_eq rfl) rfl
theorem fnNumber {n : Int} : FnC (En Tryd.prog g) 104 [.pv (.int .i64 n)] (vlA (vN n)) [] := by
  have hE := EnOk g
  exact FnC.go hE mixed Tryd.func104 []
theorem fnPart0  : FnC (En Tryd.prog g) 112 [vlA v0] (.tup [.pv (.int .i64 1), .pv (.bool true)]) [] := by
  have hE := EnOk g
  exact FnC.go hE mixed Tryd.func112 [(7, .b true)]
theorem fnPart1 {n : Int} (h : n = 0 ∨ n = 1) : FnC (En Tryd.prog g) 112 [vlA (⟨1, n, 0, noS⟩ : Vl)] (.tup [.pv (.int .i64 (2 * n)), .pv (.bool true)]) [] := by
  have hE := EnOk g
  dsimp only [vlA]
  exact FnC.go hE mixed Tryd.func112 [(7, .b false), (9, .b true)]
theorem fnTrus {l : List Int} (hl : l.length ≤ 2) (h : ∀ a ∈ l, 0 ≤ a ∧ a ≤ 2) : FnC (En Tryd.prog g) 119 [.pv (.lst 1 (l.map (PV.int .i64)))] (.pv (.int .i64 0)) [] := by
  have hE := EnOk g
  have hlm : (l.map (PV.int .i64)).length = l.length := by simp
  refine FnC.of Tryd.func119 rfl rfl rfl rfl ?_
  repeat (first | refine Run.seq ?_ | refine Run.skip ?_ | refine Run.block ?_)
  refine Run.region ?_
  refine O.assign rfl rfl ?_
  refine O.nil ?_
  try refine Run.keep [0,2,4,5,6,7,8,16] rfl rfl ?_
  repeat (first | refine Run.seq ?_ | refine Run.skip ?_ | refine Run.block ?_)
  refine Run.region ?_
  refine O.move rfl rfl ?_
  first | refine O.lenN hE T86 rfl rfl rfl (by first | exact newest_pv | exact newest_gl rfl rfl | trivial) lenC rfl ?_ | refine O.lenLst hE T86 rfl rfl rfl (by first | exact newest_pv | exact newest_gl rfl rfl | trivial) rfl ?_
  refine O.move rfl rfl ?_
  refine O.nil ?_
  try refine Run.keep [0,2,4,5,6,7,8,16] rfl rfl ?_
  repeat (first | refine Run.seq ?_ | refine Run.skip ?_)
  refine Run.block ?_
  refine Run.loopInv (ι := Nat) (fun j => j ≤ l.length)
    (fun j => ⟨18, [(5, .pv (.lst 1 (l.map (PV.int .i64)))), (6, .pv (.int .i64 l.length)), (7, .pv (.int .i64 j))], []⟩) (fun j => l.length - j) 0 (by omega) ?_ ?_
  ·
    exact SLe.drop (by repeat (first | exact TmIn.nil | refine TmIn.cons rfl ?_)) (by repeat (first | exact BxIn.nil | refine BxIn.cons rfl ?_)) rfl rfl
  rintro j hj ih
  by_cases hlt : j < l.length
  ·
    obtain ⟨a, ha⟩ : ∃ a, l[j]? = some a := ⟨_, List.getElem?_eq_getElem hlt⟩
    have hat : (l.map (PV.int .i64))[(j : Int).toNat]? = some (.int .i64 a) := by rw [Int.toNat_natCast, List.getElem?_map, ha]; rfl
    have hab := h a (List.mem_of_getElem? ha)
    repeat (first | refine Run.seq ?_ | refine Run.skip ?_ | refine Run.block ?_)
    refine Run.region ?_
    first | refine O.cmp rfl rfl rfl (by first | exact dT (by omega) | exact dF (by omega)) rfl ?_ | refine O.cmp rfl rfl rfl rfl rfl ?_
    refine O.nil ?_
    try refine Run.keep [0,2,4,5,6,7,8,16] rfl rfl ?_
    repeat (first | refine Run.seq ?_ | refine Run.skip ?_)
    first | refine Run.condT rfl rfl ?_ | refine Run.condF rfl rfl ?_ | refine Run.condT rfl (by assumption) ?_ | refine Run.condF rfl (by assumption) ?_
    repeat (first | refine Run.seq ?_ | refine Run.skip ?_ | refine Run.block ?_)
    refine Run.region ?_
    refine O.index hE T86 rfl T3 rfl rfl (by first | exact newest_pv | exact newest_gl rfl rfl | trivial) rfl (by omega) (by first | assumption | rfl) rfl rfl rfl ?_
    first | refine O.loadS hE T3 rfl rfl rfl (by rfl) rfl ?_ | refine O.loadE hE T3 rfl rfl (by rfl) rfl ?_ | refine O.load hE T3 rfl rfl rfl rfl ?_
    refine O.assign rfl rfl ?_
    refine O.nil ?_
    try refine Run.keep [0,2,4,5,6,7,8,16] rfl rfl ?_
    repeat (first | refine Run.seq ?_ | refine Run.skip ?_ | refine Run.block ?_)
    refine Run.region ?_
    refine O.move rfl rfl ?_
    first | refine O.cmp rfl rfl rfl (by first | exact dT (by omega) | exact dF (by omega)) rfl ?_ | refine O.cmp rfl rfl rfl rfl rfl ?_
    refine O.move rfl rfl ?_
    first | (refine O.yes rfl rfl (by trivial) ?_; refine O.move rfl rfl ?_) | refine O.no rfl rfl rfl rfl ?_
    first | (refine O.yes rfl rfl (by trivial) ?_; first | refine O.cmp rfl rfl rfl (by first | exact dT (by omega) | exact dF (by omega)) rfl ?_ | refine O.cmp rfl rfl rfl rfl rfl ?_) | refine O.no rfl rfl rfl rfl ?_
    refine O.pick rfl rfl rfl rfl rfl ?_
    refine O.nil ?_
    try refine Run.keep [0,2,4,5,6,7,8,16] rfl rfl ?_
    repeat (first | refine Run.seq ?_ | refine Run.skip ?_)
    first | refine Run.condT rfl rfl ?_ | refine Run.condF rfl rfl ?_ | refine Run.condT rfl (by assumption) ?_ | refine Run.condF rfl (by assumption) ?_
    repeat (first | refine Run.seq ?_ | refine Run.skip ?_ | refine Run.block ?_)
    refine Run.region ?_
    first | refine O.ar rfl rfl rfl (by exact wrap_i64 (by omega) (by omega)) rfl ?_ | refine O.ar rfl rfl rfl rfl rfl ?_
    refine O.move rfl rfl ?_
    refine O.nil ?_
    try refine Run.keep [0,2,4,5,6,7,8,16] rfl rfl ?_
    refine ih (j + 1) _ ?_ (by omega) (by omega)
    exact SLe.drop (by repeat (first | exact TmIn.nil | refine TmIn.cons rfl ?_)) (by repeat (first | exact BxIn.nil | refine BxIn.cons rfl ?_)) rfl rfl
  have hj' : j = l.length := by omega
  subst hj'
  repeat (first | refine Run.seq ?_ | refine Run.skip ?_ | refine Run.block ?_)
  refine Run.region ?_
  first | refine O.cmp rfl rfl rfl (by first | exact dT (by omega) | exact dF (by omega)) rfl ?_ | refine O.cmp rfl rfl rfl rfl rfl ?_
  refine O.nil ?_
  try refine Run.keep [0,2,4,5,6,7,8,16] rfl rfl ?_
  repeat (first | refine Run.seq ?_ | refine Run.skip ?_)
  first | refine Run.condT rfl rfl ?_ | refine Run.condF rfl rfl ?_ | refine Run.condT rfl (by assumption) ?_ | refine Run.condF rfl (by assumption) ?_
  refine Run.exit ?_
  repeat (first | refine thenR_exit ?_ | refine roundR_exit ?_ | refine blockR_exit ?_ | refine blockR_pass rfl ?_)
  repeat (first | refine Run.seq ?_ | refine Run.skip ?_ | refine Run.block ?_)
  refine Run.region ?_
  refine O.assign rfl rfl ?_
  refine O.nil ?_
  try refine Run.keep [0,2,4,5,6,7,8,16] rfl rfl ?_
  (repeat (first | refine Run.seq ?_ | refine Run.skip ?_)); (try refine Run.ret ?_); first | exact Ends.flat hE (.inr rfl) rfl rfl (AVle.of_eq rfl) rfl | exact Ends.flat hE (.inl rfl) rfl rfl (AVle.of_eq rfl) rfl
theorem fnAndV {a b : Int} (ha : 0 ≤ a ∧ a ≤ 2) (hb : 0 ≤ b ∧ b ≤ 2) : FnC (En Tryd.prog g) 113 [.pv (.int .i64 a), .pv (.int .i64 b)] (.tup [.pv (.int .i64 (minP a b)), .pv (.int .i64 0)]) [] := by
  have hE := EnOk g
  have c1 := fnTrus (g := g) (l := [a, b]) (by simp) (by intro x hx; rcases List.mem_cons.1 hx with rfl | hx; exact ha; rw [List.mem_singleton.1 hx]; exact hb)
  exact FnC.go hE mixed Tryd.func113 [(10, .fn _ _ _ c1), (12, .b false)]
theorem fnOrV {a b : Int} (ha : 0 ≤ a ∧ a ≤ 2) (hb : 0 ≤ b ∧ b ≤ 2) : FnC (En Tryd.prog g) 114 [.pv (.int .i64 a), .pv (.int .i64 b)] (.tup [.pv (.int .i64 (maxP a b)), .pv (.int .i64 0)]) [] := by
  have hE := EnOk g
  have c1 := fnTrus (g := g) (l := [a, b]) (by simp) (by intro x hx; rcases List.mem_cons.1 hx with rfl | hx; exact ha; rw [List.mem_singleton.1 hx]; exact hb)
  exact FnC.go hE mixed Tryd.func114 [(10, .fn _ _ _ c1), (12, .b false)]
theorem fnNotV {a : Int} (ha : 0 ≤ a ∧ a ≤ 2) : FnC (En Tryd.prog g) 118 [.pv (.int .i64 a)] (.tup [.pv (.int .i64 (2 - a)), .pv (.int .i64 0)]) [] := by
  have hE := EnOk g
  have c1 := fnTrus (g := g) (l := [a]) (by simp) (by intro x hx; rw [List.mem_singleton.1 hx]; exact ha)
  exact FnC.go hE mixed Tryd.func118 [(7, .fn _ _ _ c1), (9, .b false)]
/-- A truth or nothing. -/
def Log (v : Vl) : Prop := v = v0 ∨ ∃ n, (n = 0 ∨ n = 1) ∧ v = ⟨1, n, 0, noS⟩
theorem fnPart {v : Vl} (h : Log v) : FnC (En Tryd.prog g) 112 [vlA v] (.tup [.pv (.int .i64 (prt v)), .pv (.bool true)]) [] := by
  rcases h with rfl | ⟨n, hn, rfl⟩
  · exact fnPart0
  · exact fnPart1 hn
theorem prt_in {v : Vl} (h : Log v) : 0 ≤ prt v ∧ prt v ≤ 2 := by
  rcases h with rfl | ⟨n, hn, rfl⟩
  · decide
  · unfold prt; dsimp only; rw [if_neg (by decide)]; omega
theorem fnLogicAnd {v w : Vl} (hv : Log v) (hw : Log w) : FnC (En Tryd.prog g) 108 [.pv (.int .i64 15), vlA v, vlA w] (.tup [vlA (tru (minP (prt v) (prt w))), .pv (.int .i64 0)]) [] := by
  have hE := EnOk g
  have p1 := prt_in hv
  have p2 := prt_in hw
  have c1 := fnPart (g := g) hv
  have c2 := fnPart (g := g) hw
  have c3 := fnAndV (g := g) p1 p2
  have c4 := fnOrV (g := g) p1 p2
  have h5 : minP (prt v) (prt w) = 0 ∨ minP (prt v) (prt w) = 1 ∨ minP (prt v) (prt w) = 2 := by unfold minP; split <;> omega
  have c5 := fnTruth (g := g) h5
  generalize prt v = a at *
  generalize prt w = b at *
  generalize tru (minP a b) = r at *
  obtain ⟨rk, rn, rb, rs⟩ := r
  obtain ⟨vk, vn, vb, vs⟩ := v
  obtain ⟨wk, wn, wb, ws⟩ := w
  dsimp only [vlA] at c1 c2 c5 ⊢
  exact FnC.go hE mixed Tryd.func108 [(16, .fn _ _ _ c1), (21, .fn _ _ _ c2), (34, .fn _ _ _ c3), (38, .b false), (46, .fn _ _ _ c5)]
theorem fnLogicOr {v w : Vl} (hv : Log v) (hw : Log w) : FnC (En Tryd.prog g) 108 [.pv (.int .i64 16), vlA v, vlA w] (.tup [vlA (tru (maxP (prt v) (prt w))), .pv (.int .i64 0)]) [] := by
  have hE := EnOk g
  have p1 := prt_in hv
  have p2 := prt_in hw
  have c1 := fnPart (g := g) hv
  have c2 := fnPart (g := g) hw
  have c3 := fnAndV (g := g) p1 p2
  have c4 := fnOrV (g := g) p1 p2
  have h5 : maxP (prt v) (prt w) = 0 ∨ maxP (prt v) (prt w) = 1 ∨ maxP (prt v) (prt w) = 2 := by unfold maxP; split <;> omega
  have c5 := fnTruth (g := g) h5
  generalize prt v = a at *
  generalize prt w = b at *
  generalize tru (maxP a b) = r at *
  obtain ⟨rk, rn, rb, rs⟩ := r
  obtain ⟨vk, vn, vb, vs⟩ := v
  obtain ⟨wk, wn, wb, ws⟩ := w
  dsimp only [vlA] at c1 c2 c5 ⊢
  exact FnC.go hE mixed Tryd.func108 [(16, .fn _ _ _ c1), (21, .fn _ _ _ c2), (34, .fn _ _ _ c3), (38, .b true), (42, .fn _ _ _ c4), (46, .fn _ _ _ c5)]
/-- A value of a kind, or nothing. -/
def Of (k : Int) (v : Vl) : Prop := v.kd = k ∨ v.kd = 0
theorem fnAskedE {k : Int} (hk : k ≠ 0) {v w : Vl} (hv : Of k v) (hw : Of k w) : FnC (En Tryd.prog g) 115 [.pv (.int .i64 k), vlA v, vlA w] (.pv (.bool true)) [] := by
  have hE := EnOk g
  obtain ⟨vk, vn, vb, vs⟩ := v
  obtain ⟨wk, wn, wb, ws⟩ := w
  unfold Of at hv hw
  dsimp only at hv hw
  dsimp only [vlA]
  refine FnC.of Tryd.func115 rfl rfl rfl rfl ?_
  rcases hv with rfl | rfl <;> rcases hw with rfl | rfl
  ·
    repeat (first | refine Run.seq ?_ | refine Run.skip ?_ | refine Run.block ?_)
    refine Run.region ?_
    refine O.box 4 rfl (by first | rfl | exact cells_ones (by simp [ones_app, ones_ints, ones, AV.one, PV.one])) rfl rfl ?_
    refine O.box 5 rfl (by first | rfl | exact cells_ones (by simp [ones_app, ones_ints, ones, AV.one, PV.one])) rfl rfl ?_
    refine O.assign rfl rfl ?_
    refine O.nil ?_
    try refine Run.keep [0,1,2,4,5,6] rfl rfl ?_
    repeat (first | refine Run.seq ?_ | refine Run.skip ?_ | refine Run.block ?_)
    refine Run.region ?_
    refine O.field hE L25 rfl rfl rfl rfl ?_
    first | refine O.loadS hE T3 rfl rfl rfl (by rfl) rfl ?_ | refine O.loadE hE T3 rfl rfl (by rfl) rfl ?_ | refine O.load hE T3 rfl rfl rfl rfl ?_
    first | refine O.cmp rfl rfl rfl (by first | exact dT (by omega) | exact dF (by omega)) rfl ?_ | refine O.cmp rfl rfl rfl rfl rfl ?_
    refine O.move rfl rfl ?_
    first | (refine O.yes rfl rfl (by trivial) ?_; refine O.field hE L25 rfl rfl rfl rfl ?_) | refine O.no rfl rfl rfl rfl ?_
    first | (refine O.yes rfl rfl (by trivial) ?_; first | refine O.loadS hE T3 rfl rfl rfl (by rfl) rfl ?_ | refine O.loadE hE T3 rfl rfl (by rfl) rfl ?_ | refine O.load hE T3 rfl rfl rfl rfl ?_) | refine O.no rfl rfl rfl rfl ?_
    first | (refine O.yes rfl rfl (by trivial) ?_; refine O.move rfl rfl ?_) | refine O.no rfl rfl rfl rfl ?_
    first | (refine O.yes rfl rfl (by trivial) ?_; first | refine O.cmp rfl rfl rfl (by first | exact dT (by omega) | exact dF (by omega)) rfl ?_ | refine O.cmp rfl rfl rfl rfl rfl ?_) | refine O.no rfl rfl rfl rfl ?_
    refine O.pick rfl rfl rfl rfl rfl ?_
    refine O.move rfl rfl ?_
    first | (refine O.yes rfl rfl (by trivial) ?_; refine O.field hE L25 rfl rfl rfl rfl ?_) | refine O.no rfl rfl rfl rfl ?_
    first | (refine O.yes rfl rfl (by trivial) ?_; first | refine O.loadS hE T3 rfl rfl rfl (by rfl) rfl ?_ | refine O.loadE hE T3 rfl rfl (by rfl) rfl ?_ | refine O.load hE T3 rfl rfl rfl rfl ?_) | refine O.no rfl rfl rfl rfl ?_
    first | (refine O.yes rfl rfl (by trivial) ?_; first | refine O.cmp rfl rfl rfl (by first | exact dT (by omega) | exact dF (by omega)) rfl ?_ | refine O.cmp rfl rfl rfl rfl rfl ?_) | refine O.no rfl rfl rfl rfl ?_
    first | (refine O.yes rfl rfl (by trivial) ?_; refine O.move rfl rfl ?_) | refine O.no rfl rfl rfl rfl ?_
    first | (refine O.yes rfl rfl (by trivial) ?_; refine O.field hE L25 rfl rfl rfl rfl ?_) | refine O.no rfl rfl rfl rfl ?_
    first | (refine O.yes rfl rfl (by trivial) ?_; first | refine O.loadS hE T3 rfl rfl rfl (by rfl) rfl ?_ | refine O.loadE hE T3 rfl rfl (by rfl) rfl ?_ | refine O.load hE T3 rfl rfl rfl rfl ?_) | refine O.no rfl rfl rfl rfl ?_
    first | (refine O.yes rfl rfl (by trivial) ?_; refine O.move rfl rfl ?_) | refine O.no rfl rfl rfl rfl ?_
    first | (refine O.yes rfl rfl (by trivial) ?_; first | refine O.cmp rfl rfl rfl (by first | exact dT (by omega) | exact dF (by omega)) rfl ?_ | refine O.cmp rfl rfl rfl rfl rfl ?_) | refine O.no rfl rfl rfl rfl ?_
    first | (refine O.yes rfl rfl (by trivial) ?_; refine O.pick rfl rfl rfl rfl rfl ?_) | refine O.no rfl rfl rfl rfl ?_
    refine O.pick rfl rfl rfl rfl rfl ?_
    refine O.assign rfl rfl ?_
    refine O.nil ?_
    try refine Run.keep [0,1,2,4,5,6] rfl rfl ?_
    (repeat (first | refine Run.seq ?_ | refine Run.skip ?_)); (try refine Run.ret ?_); first | exact Ends.flat hE (.inr rfl) rfl rfl (AVle.of_eq rfl) rfl | exact Ends.flat hE (.inl rfl) rfl rfl (AVle.of_eq rfl) rfl
  ·
    repeat (first | refine Run.seq ?_ | refine Run.skip ?_ | refine Run.block ?_)
    refine Run.region ?_
    refine O.box 4 rfl (by first | rfl | exact cells_ones (by simp [ones_app, ones_ints, ones, AV.one, PV.one])) rfl rfl ?_
    refine O.box 5 rfl (by first | rfl | exact cells_ones (by simp [ones_app, ones_ints, ones, AV.one, PV.one])) rfl rfl ?_
    refine O.assign rfl rfl ?_
    refine O.nil ?_
    try refine Run.keep [0,1,2,4,5,6] rfl rfl ?_
    repeat (first | refine Run.seq ?_ | refine Run.skip ?_ | refine Run.block ?_)
    refine Run.region ?_
    refine O.field hE L25 rfl rfl rfl rfl ?_
    first | refine O.loadS hE T3 rfl rfl rfl (by rfl) rfl ?_ | refine O.loadE hE T3 rfl rfl (by rfl) rfl ?_ | refine O.load hE T3 rfl rfl rfl rfl ?_
    first | refine O.cmp rfl rfl rfl (by first | exact dT (by omega) | exact dF (by omega)) rfl ?_ | refine O.cmp rfl rfl rfl rfl rfl ?_
    refine O.move rfl rfl ?_
    first | (refine O.yes rfl rfl (by trivial) ?_; refine O.field hE L25 rfl rfl rfl rfl ?_) | refine O.no rfl rfl rfl rfl ?_
    first | (refine O.yes rfl rfl (by trivial) ?_; first | refine O.loadS hE T3 rfl rfl rfl (by rfl) rfl ?_ | refine O.loadE hE T3 rfl rfl (by rfl) rfl ?_ | refine O.load hE T3 rfl rfl rfl rfl ?_) | refine O.no rfl rfl rfl rfl ?_
    first | (refine O.yes rfl rfl (by trivial) ?_; refine O.move rfl rfl ?_) | refine O.no rfl rfl rfl rfl ?_
    first | (refine O.yes rfl rfl (by trivial) ?_; first | refine O.cmp rfl rfl rfl (by first | exact dT (by omega) | exact dF (by omega)) rfl ?_ | refine O.cmp rfl rfl rfl rfl rfl ?_) | refine O.no rfl rfl rfl rfl ?_
    refine O.pick rfl rfl rfl rfl rfl ?_
    refine O.move rfl rfl ?_
    first | (refine O.yes rfl rfl (by trivial) ?_; refine O.field hE L25 rfl rfl rfl rfl ?_) | refine O.no rfl rfl rfl rfl ?_
    first | (refine O.yes rfl rfl (by trivial) ?_; first | refine O.loadS hE T3 rfl rfl rfl (by rfl) rfl ?_ | refine O.loadE hE T3 rfl rfl (by rfl) rfl ?_ | refine O.load hE T3 rfl rfl rfl rfl ?_) | refine O.no rfl rfl rfl rfl ?_
    first | (refine O.yes rfl rfl (by trivial) ?_; first | refine O.cmp rfl rfl rfl (by first | exact dT (by omega) | exact dF (by omega)) rfl ?_ | refine O.cmp rfl rfl rfl rfl rfl ?_) | refine O.no rfl rfl rfl rfl ?_
    first | (refine O.yes rfl rfl (by trivial) ?_; refine O.move rfl rfl ?_) | refine O.no rfl rfl rfl rfl ?_
    first | (refine O.yes rfl rfl (by trivial) ?_; refine O.field hE L25 rfl rfl rfl rfl ?_) | refine O.no rfl rfl rfl rfl ?_
    first | (refine O.yes rfl rfl (by trivial) ?_; first | refine O.loadS hE T3 rfl rfl rfl (by rfl) rfl ?_ | refine O.loadE hE T3 rfl rfl (by rfl) rfl ?_ | refine O.load hE T3 rfl rfl rfl rfl ?_) | refine O.no rfl rfl rfl rfl ?_
    first | (refine O.yes rfl rfl (by trivial) ?_; refine O.move rfl rfl ?_) | refine O.no rfl rfl rfl rfl ?_
    first | (refine O.yes rfl rfl (by trivial) ?_; first | refine O.cmp rfl rfl rfl (by first | exact dT (by omega) | exact dF (by omega)) rfl ?_ | refine O.cmp rfl rfl rfl rfl rfl ?_) | refine O.no rfl rfl rfl rfl ?_
    first | (refine O.yes rfl rfl (by trivial) ?_; refine O.pick rfl rfl rfl rfl rfl ?_) | refine O.no rfl rfl rfl rfl ?_
    refine O.pick rfl rfl rfl rfl rfl ?_
    refine O.assign rfl rfl ?_
    refine O.nil ?_
    try refine Run.keep [0,1,2,4,5,6] rfl rfl ?_
    (repeat (first | refine Run.seq ?_ | refine Run.skip ?_)); (try refine Run.ret ?_); first | exact Ends.flat hE (.inr rfl) rfl rfl (AVle.of_eq rfl) rfl | exact Ends.flat hE (.inl rfl) rfl rfl (AVle.of_eq rfl) rfl
  ·
    repeat (first | refine Run.seq ?_ | refine Run.skip ?_ | refine Run.block ?_)
    refine Run.region ?_
    refine O.box 4 rfl (by first | rfl | exact cells_ones (by simp [ones_app, ones_ints, ones, AV.one, PV.one])) rfl rfl ?_
    refine O.box 5 rfl (by first | rfl | exact cells_ones (by simp [ones_app, ones_ints, ones, AV.one, PV.one])) rfl rfl ?_
    refine O.assign rfl rfl ?_
    refine O.nil ?_
    try refine Run.keep [0,1,2,4,5,6] rfl rfl ?_
    repeat (first | refine Run.seq ?_ | refine Run.skip ?_ | refine Run.block ?_)
    refine Run.region ?_
    refine O.field hE L25 rfl rfl rfl rfl ?_
    first | refine O.loadS hE T3 rfl rfl rfl (by rfl) rfl ?_ | refine O.loadE hE T3 rfl rfl (by rfl) rfl ?_ | refine O.load hE T3 rfl rfl rfl rfl ?_
    first | refine O.cmp rfl rfl rfl (by first | exact dT (by omega) | exact dF (by omega)) rfl ?_ | refine O.cmp rfl rfl rfl rfl rfl ?_
    refine O.move rfl rfl ?_
    first | (refine O.yes rfl rfl (by trivial) ?_; refine O.field hE L25 rfl rfl rfl rfl ?_) | refine O.no rfl rfl rfl rfl ?_
    first | (refine O.yes rfl rfl (by trivial) ?_; first | refine O.loadS hE T3 rfl rfl rfl (by rfl) rfl ?_ | refine O.loadE hE T3 rfl rfl (by rfl) rfl ?_ | refine O.load hE T3 rfl rfl rfl rfl ?_) | refine O.no rfl rfl rfl rfl ?_
    first | (refine O.yes rfl rfl (by trivial) ?_; refine O.move rfl rfl ?_) | refine O.no rfl rfl rfl rfl ?_
    first | (refine O.yes rfl rfl (by trivial) ?_; first | refine O.cmp rfl rfl rfl (by first | exact dT (by omega) | exact dF (by omega)) rfl ?_ | refine O.cmp rfl rfl rfl rfl rfl ?_) | refine O.no rfl rfl rfl rfl ?_
    refine O.pick rfl rfl rfl rfl rfl ?_
    refine O.move rfl rfl ?_
    first | (refine O.yes rfl rfl (by trivial) ?_; refine O.field hE L25 rfl rfl rfl rfl ?_) | refine O.no rfl rfl rfl rfl ?_
    first | (refine O.yes rfl rfl (by trivial) ?_; first | refine O.loadS hE T3 rfl rfl rfl (by rfl) rfl ?_ | refine O.loadE hE T3 rfl rfl (by rfl) rfl ?_ | refine O.load hE T3 rfl rfl rfl rfl ?_) | refine O.no rfl rfl rfl rfl ?_
    first | (refine O.yes rfl rfl (by trivial) ?_; first | refine O.cmp rfl rfl rfl (by first | exact dT (by omega) | exact dF (by omega)) rfl ?_ | refine O.cmp rfl rfl rfl rfl rfl ?_) | refine O.no rfl rfl rfl rfl ?_
    first | (refine O.yes rfl rfl (by trivial) ?_; refine O.move rfl rfl ?_) | refine O.no rfl rfl rfl rfl ?_
    first | (refine O.yes rfl rfl (by trivial) ?_; refine O.field hE L25 rfl rfl rfl rfl ?_) | refine O.no rfl rfl rfl rfl ?_
    first | (refine O.yes rfl rfl (by trivial) ?_; first | refine O.loadS hE T3 rfl rfl rfl (by rfl) rfl ?_ | refine O.loadE hE T3 rfl rfl (by rfl) rfl ?_ | refine O.load hE T3 rfl rfl rfl rfl ?_) | refine O.no rfl rfl rfl rfl ?_
    first | (refine O.yes rfl rfl (by trivial) ?_; refine O.move rfl rfl ?_) | refine O.no rfl rfl rfl rfl ?_
    first | (refine O.yes rfl rfl (by trivial) ?_; first | refine O.cmp rfl rfl rfl (by first | exact dT (by omega) | exact dF (by omega)) rfl ?_ | refine O.cmp rfl rfl rfl rfl rfl ?_) | refine O.no rfl rfl rfl rfl ?_
    first | (refine O.yes rfl rfl (by trivial) ?_; refine O.pick rfl rfl rfl rfl rfl ?_) | refine O.no rfl rfl rfl rfl ?_
    refine O.pick rfl rfl rfl rfl rfl ?_
    refine O.assign rfl rfl ?_
    refine O.nil ?_
    try refine Run.keep [0,1,2,4,5,6] rfl rfl ?_
    (repeat (first | refine Run.seq ?_ | refine Run.skip ?_)); (try refine Run.ret ?_); first | exact Ends.flat hE (.inr rfl) rfl rfl (AVle.of_eq rfl) rfl | exact Ends.flat hE (.inl rfl) rfl rfl (AVle.of_eq rfl) rfl
  ·
    repeat (first | refine Run.seq ?_ | refine Run.skip ?_ | refine Run.block ?_)
    refine Run.region ?_
    refine O.box 4 rfl (by first | rfl | exact cells_ones (by simp [ones_app, ones_ints, ones, AV.one, PV.one])) rfl rfl ?_
    refine O.box 5 rfl (by first | rfl | exact cells_ones (by simp [ones_app, ones_ints, ones, AV.one, PV.one])) rfl rfl ?_
    refine O.assign rfl rfl ?_
    refine O.nil ?_
    try refine Run.keep [0,1,2,4,5,6] rfl rfl ?_
    repeat (first | refine Run.seq ?_ | refine Run.skip ?_ | refine Run.block ?_)
    refine Run.region ?_
    refine O.field hE L25 rfl rfl rfl rfl ?_
    first | refine O.loadS hE T3 rfl rfl rfl (by rfl) rfl ?_ | refine O.loadE hE T3 rfl rfl (by rfl) rfl ?_ | refine O.load hE T3 rfl rfl rfl rfl ?_
    first | refine O.cmp rfl rfl rfl (by first | exact dT (by omega) | exact dF (by omega)) rfl ?_ | refine O.cmp rfl rfl rfl rfl rfl ?_
    refine O.move rfl rfl ?_
    first | (refine O.yes rfl rfl (by trivial) ?_; refine O.field hE L25 rfl rfl rfl rfl ?_) | refine O.no rfl rfl rfl rfl ?_
    first | (refine O.yes rfl rfl (by trivial) ?_; first | refine O.loadS hE T3 rfl rfl rfl (by rfl) rfl ?_ | refine O.loadE hE T3 rfl rfl (by rfl) rfl ?_ | refine O.load hE T3 rfl rfl rfl rfl ?_) | refine O.no rfl rfl rfl rfl ?_
    first | (refine O.yes rfl rfl (by trivial) ?_; refine O.move rfl rfl ?_) | refine O.no rfl rfl rfl rfl ?_
    first | (refine O.yes rfl rfl (by trivial) ?_; first | refine O.cmp rfl rfl rfl (by first | exact dT (by omega) | exact dF (by omega)) rfl ?_ | refine O.cmp rfl rfl rfl rfl rfl ?_) | refine O.no rfl rfl rfl rfl ?_
    refine O.pick rfl rfl rfl rfl rfl ?_
    refine O.move rfl rfl ?_
    first | (refine O.yes rfl rfl (by trivial) ?_; refine O.field hE L25 rfl rfl rfl rfl ?_) | refine O.no rfl rfl rfl rfl ?_
    first | (refine O.yes rfl rfl (by trivial) ?_; first | refine O.loadS hE T3 rfl rfl rfl (by rfl) rfl ?_ | refine O.loadE hE T3 rfl rfl (by rfl) rfl ?_ | refine O.load hE T3 rfl rfl rfl rfl ?_) | refine O.no rfl rfl rfl rfl ?_
    first | (refine O.yes rfl rfl (by trivial) ?_; first | refine O.cmp rfl rfl rfl (by first | exact dT (by omega) | exact dF (by omega)) rfl ?_ | refine O.cmp rfl rfl rfl rfl rfl ?_) | refine O.no rfl rfl rfl rfl ?_
    first | (refine O.yes rfl rfl (by trivial) ?_; refine O.move rfl rfl ?_) | refine O.no rfl rfl rfl rfl ?_
    first | (refine O.yes rfl rfl (by trivial) ?_; refine O.field hE L25 rfl rfl rfl rfl ?_) | refine O.no rfl rfl rfl rfl ?_
    first | (refine O.yes rfl rfl (by trivial) ?_; first | refine O.loadS hE T3 rfl rfl rfl (by rfl) rfl ?_ | refine O.loadE hE T3 rfl rfl (by rfl) rfl ?_ | refine O.load hE T3 rfl rfl rfl rfl ?_) | refine O.no rfl rfl rfl rfl ?_
    first | (refine O.yes rfl rfl (by trivial) ?_; refine O.move rfl rfl ?_) | refine O.no rfl rfl rfl rfl ?_
    first | (refine O.yes rfl rfl (by trivial) ?_; first | refine O.cmp rfl rfl rfl (by first | exact dT (by omega) | exact dF (by omega)) rfl ?_ | refine O.cmp rfl rfl rfl rfl rfl ?_) | refine O.no rfl rfl rfl rfl ?_
    first | (refine O.yes rfl rfl (by trivial) ?_; refine O.pick rfl rfl rfl rfl rfl ?_) | refine O.no rfl rfl rfl rfl ?_
    refine O.pick rfl rfl rfl rfl rfl ?_
    refine O.assign rfl rfl ?_
    refine O.nil ?_
    try refine Run.keep [0,1,2,4,5,6] rfl rfl ?_
    (repeat (first | refine Run.seq ?_ | refine Run.skip ?_)); (try refine Run.ret ?_); first | exact Ends.flat hE (.inr rfl) rfl rfl (AVle.of_eq rfl) rfl | exact Ends.flat hE (.inl rfl) rfl rfl (AVle.of_eq rfl) rfl
end Go.Proofs.YtlcmnhocicehmaaDoor.Vm
end
end
section
section
namespace Go.Proofs.YtlcmnhocicehmaaDoor.Vm
open Go Go.RowKit Go.Lib
set_option linter.unusedVariables false
set_option linter.unusedSimpArgs false
attribute [local irreducible] Ops Dr Run
section
variable {E : Env} {n : Nat} {tm : List (Nat × AV)} {bx : List (Nat × Box)} {ops : Array Oper} {l : List Oper} {d : Tmp} {ty : TypeId} {pos : String} {after : Array Edge}
end
variable {g : Nat → Option (List PV)}
theorem fnRunes {s : ByteArray} (hs : s.size ≤ 1000) : FnC (En Tryd.prog g) 105 [.pv (.str s)] (.pv (.int .i64 (Lib.runeCount s))) [] := by
  have hE := EnOk g
  refine FnC.of Tryd.func105 rfl rfl rfl rfl ?_
  repeat (first | refine Run.seq ?_ | refine Run.skip ?_ | refine Run.block ?_)
  refine Run.region ?_
  refine O.assign rfl rfl ?_
  refine O.nil ?_
  try refine Run.keep [0,2,4,6] rfl rfl ?_
  repeat (first | refine Run.seq ?_ | refine Run.skip ?_ | refine Run.block ?_)
  refine Run.region ?_
  refine O.move rfl rfl ?_
  refine O.range hE 4 T9 rfl rfl rfl rfl ?_
  refine O.nil ?_
  try refine Run.keep [0,2,4,6] rfl rfl ?_
  repeat (first | refine Run.seq ?_ | refine Run.skip ?_)
  refine Run.block ?_
  refine Run.loopInv (ι := Nat × Nat × Nat) (fun q => q.1 + Lib.runeCountFrom s q.2.1 q.2.2 = Lib.runeCount s ∧ s.size ≤ q.2.2 + q.2.1 ∧ q.1 ≤ q.2.2) (fun q => ⟨10, [(2, .pv (.int .i64 q.1)), (4, .ptr 4 0)], [(4, .iter s q.2.2)]⟩) (fun q => s.size - q.2.2) (0, s.size, 0) ⟨by simp [Lib.runeCount], by simp, by simp⟩ ?_ ?_
  ·
    exact SLe.drop (by repeat (first | exact TmIn.nil | refine TmIn.cons rfl ?_)) (by repeat (first | exact BxIn.nil | refine BxIn.cons rfl ?_)) rfl rfl
  rintro ⟨acc, b, q⟩ ⟨h1, h2, h3⟩ ih
  dsimp only at h1 h2 h3 ih ⊢
  by_cases hp : q < s.size
  ·
    obtain ⟨c, wd, hdec⟩ : ∃ c wd, Utf8.decode s q = (c, wd) := ⟨_, _, rfl⟩
    have hwd := Lib.decode_width_pos s q hp
    rw [hdec] at hwd
    dsimp only at hwd
    cases b with
    | zero => omega
    | succ b =>
      rw [Lib.runeCountFrom, if_pos hp, hdec] at h1
      dsimp only at h1
      have hacc := Lib.runeCount_le s
      repeat (first | refine Run.seq ?_ | refine Run.skip ?_ | refine Run.block ?_)
      refine Run.region ?_
      refine O.nextT rfl rfl hp hdec rfl ?_
      refine O.extract rfl rfl rfl ?_
      refine O.nil ?_
      try refine Run.keep [0,2,4,6] rfl rfl ?_
      repeat (first | refine Run.seq ?_ | refine Run.skip ?_)
      first | refine Run.condT rfl rfl ?_ | refine Run.condF rfl rfl ?_ | refine Run.condT rfl (by assumption) ?_ | refine Run.condF rfl (by assumption) ?_
      repeat (first | refine Run.seq ?_ | refine Run.skip ?_ | refine Run.block ?_)
      refine Run.region ?_
      refine O.move rfl rfl ?_
      first | refine O.ar rfl rfl rfl (by exact wrap_i64 (by omega) (by omega)) rfl ?_ | refine O.ar rfl rfl rfl rfl rfl ?_
      refine O.assign rfl rfl ?_
      refine O.nil ?_
      try refine Run.keep [0,2,4,6] rfl rfl ?_
      refine ih (acc + 1, b, q + wd) _ ?_ ⟨by dsimp only; omega, by dsimp only; omega, by dsimp only; omega⟩ (by dsimp only; omega)
      exact SLe.drop (by repeat (first | exact TmIn.nil | refine TmIn.cons rfl ?_)) (by repeat (first | exact BxIn.nil | refine BxIn.cons rfl ?_)) rfl rfl
  rw [Lib.runeCountFrom_end s b q hp, Nat.add_zero] at h1
  rw [← h1]
  repeat (first | refine Run.seq ?_ | refine Run.skip ?_ | refine Run.block ?_)
  refine Run.region ?_
  refine O.nextF rfl rfl hp rfl ?_
  refine O.extract rfl rfl rfl ?_
  refine O.nil ?_
  try refine Run.keep [0,2,4,6] rfl rfl ?_
  repeat (first | refine Run.seq ?_ | refine Run.skip ?_)
  first | refine Run.condT rfl rfl ?_ | refine Run.condF rfl rfl ?_ | refine Run.condT rfl (by assumption) ?_ | refine Run.condF rfl (by assumption) ?_
  refine Run.exit ?_
  repeat (first | refine thenR_exit ?_ | refine roundR_exit ?_ | refine blockR_exit ?_ | refine blockR_pass rfl ?_)
  repeat (first | refine Run.seq ?_ | refine Run.skip ?_ | refine Run.block ?_)
  refine Run.region ?_
  refine O.move rfl rfl ?_
  refine O.assign rfl rfl ?_
  refine O.nil ?_
  try refine Run.keep [0,2,4,6] rfl rfl ?_
  (repeat (first | refine Run.seq ?_ | refine Run.skip ?_)); (try refine Run.ret ?_); first | exact Ends.flat hE (.inr rfl) rfl rfl (AVle.of_eq rfl) rfl | exact Ends.flat hE (.inl rfl) rfl rfl (AVle.of_eq rfl) rfl
/-- What one operation asks of its value. -/
def One (op : Int) (v : Vl) : Prop := (op = 17 ∧ (v.kd = 0 ∨ v.kd ≠ 0)) ∨ (op = 4 ∧ Log v) ∨ (op = 18 ∧ (v = v0 ∨ ∃ s, s.size ≤ 1000 ∧ v = vS s)) ∨ (op = 3 ∧ (v = v0 ∨ ∃ n, inR n ∧ v = vN n))
theorem fnOne {op : Int} {v : Vl} (h : One op v) : FnC (En Tryd.prog g) 102 [.pv (.int .i64 op), vlA v] (.tup [vlA (one1 op v).1, .pv (.int .i64 (one1 op v).2)]) [] := by
  have hE := EnOk g
  have ct2 := fnTruth (g := g) (t := 2) (by omega)
  have ct0 := fnTruth (g := g) (t := 0) (by omega)
  rw [show tru 2 = vB true from rfl] at ct2
  rw [show tru 0 = vB false from rfl] at ct0
  dsimp only [vlA, vB] at ct2 ct0
  rcases h with ⟨rfl, h⟩ | ⟨rfl, h⟩ | ⟨rfl, h⟩ | ⟨rfl, h⟩
  ·
    have e : one1 17 v = (vB (decide (v.kd = 0)), 0) := rfl
    rw [e]
    obtain ⟨vk, vn, vb, vs⟩ := v
    dsimp only [vlA, vB] at h ⊢
    by_cases hk : vk = 0
    ·
      rw [decide_eq_true hk]
      exact FnC.go hE mixed Tryd.func102 [(8, .b true), (11, .b true), (12, .fn _ _ _ ct2)]
    ·
      rw [decide_eq_false hk]
      exact FnC.go hE mixed Tryd.func102 [(8, .b true), (11, .b false), (13, .fn _ _ _ ct0)]
  ·
    rcases h with rfl | ⟨n, hn, rfl⟩
    ·
      have e : one1 4 v0 = (v0, 0) := rfl
      rw [e]
      dsimp only [vlA, vN, vS]
      exact FnC.go hE mixed Tryd.func102 [(8, .b false), (16, .b true), (21, .b true)]
    ·
      have e : one1 4 ⟨1, n, 0, noS⟩ = (⟨1, 1 - n, 0, noS⟩, 0) := rfl
      rw [e]
      dsimp only [vlA, vN, vS]
      exact FnC.go hE mixed Tryd.func102 [(8, .b false), (16, .b true), (21, .b false), (26, .b false), (30, .b true)]
  ·
    rcases h with rfl | ⟨s, hs, rfl⟩
    ·
      have e : one1 18 v0 = (v0, 0) := rfl
      rw [e]
      dsimp only [vlA, vN, vS]
      exact FnC.go hE mixed Tryd.func102 [(8, .b false), (16, .b false), (18, .b true), (21, .b true)]
    ·
      have e : one1 18 (vS s) = (vN (Lib.runeCount s), 0) := rfl
      rw [e]
      have cr := fnRunes (g := g) hs
      have cn := fnNumber (g := g) (n := Lib.runeCount s)
      dsimp only [vlA, vN] at cn
      dsimp only [vlA, vN, vS]
      exact FnC.go hE mixed Tryd.func102 [(8, .b false), (16, .b false), (18, .b true), (21, .b false), (26, .b false), (30, .b false), (36, .b true), (39, .fn _ _ _ cr), (40, .fn _ _ _ cn)]
  ·
    rcases h with rfl | ⟨n, hn, rfl⟩
    ·
      have e : one1 3 v0 = (v0, 0) := rfl
      rw [e]
      dsimp only [vlA, vN, vS]
      exact FnC.go hE mixed Tryd.func102 [(8, .b false), (16, .b false), (18, .b false), (21, .b true)]
    ·
      by_cases hm : n = -9223372036854775808
      ·
        have e : one1 3 (vN n) = (v0, 6) := by unfold one1 vN; simp [hm]
        rw [e]
        dsimp only [vlA, vN, vS]
        exact FnC.go hE mixed Tryd.func102 [(8, .b false), (16, .b false), (18, .b false), (21, .b false), (26, .b false), (30, .b false), (36, .b false), (43, .b true)]
      ·
        have e : one1 3 (vN n) = (vN (-n), 0) := by unfold one1 vN; simp [hm]
        rw [e]
        unfold inR at hn
        have hw : IntKind.i64.wrap (0 - n) = -n := wrap_eq 0 (by omega) (by unfold inR; omega)
        have cn := fnNumber (g := g) (n := -n)
        dsimp only [vlA, vN] at cn
        dsimp only [vlA, vN, vS]
        exact FnC.go hE mixed Tryd.func102 [(8, .b false), (16, .b false), (18, .b false), (21, .b false), (26, .b false), (30, .b false), (36, .b false), (43, .b false), (48, .fn _ _ _ cn)]
theorem fnJoinNull {v w : Vl} (hv : Of 4 v) (hw : Of 4 w) (h : v.kd = 0 ∨ w.kd = 0) : FnC (En Tryd.prog g) 109 [vlA v, vlA w] (.tup [vlA v0, .pv (.int .i64 0)]) [] := by
  have hE := EnOk g
  have c1 := fnAskedE (g := g) (k := 4) (by omega) hv hw
  obtain ⟨vk, vn, vb, vs⟩ := v
  obtain ⟨wk, wn, wb, ws⟩ := w
  dsimp only at h
  dsimp only [vlA] at c1 ⊢
  refine FnC.of Tryd.func109 rfl rfl rfl rfl ?_
  by_cases hk : vk = 0
  ·
    repeat (first | refine Run.seq ?_ | refine Run.skip ?_ | refine Run.block ?_)
    refine Run.region ?_
    refine O.box 2 rfl (by first | rfl | exact cells_ones (by simp [ones_app, ones_ints, ones, AV.one, PV.one])) rfl rfl ?_
    refine O.box 3 rfl (by first | rfl | exact cells_ones (by simp [ones_app, ones_ints, ones, AV.one, PV.one])) rfl rfl ?_
    refine O.alloc hE 4 T25 rfl rfl rfl ?_
    refine O.assign rfl rfl ?_
    refine O.nil ?_
    try refine Run.keep [0,1,2,3,4,5,9,18,27] rfl rfl ?_
    repeat (first | refine Run.seq ?_ | refine Run.skip ?_ | refine Run.block ?_)
    refine Run.region ?_
    refine O.load hE T25 rfl rfl rfl rfl ?_
    refine O.load hE T25 rfl rfl rfl rfl ?_
    refine O.callE c1 rfl (by first | rfl | simp [closed, men3, mens2_app, mens2_ints, mens2, men2, men1, mens1_app, mens1_ints, mens1]) (by first | rfl | simp [d2, ds1_ints, ds1_app, ds1, d1, ds0_app, ds0_ints, ds0, d0]) rfl ?_
    refine O.un rfl rfl rfl rfl rfl ?_
    refine O.nil ?_
    try refine Run.keep [0,1,2,3,4,5,9,18,27] rfl rfl ?_
    repeat (first | refine Run.seq ?_ | refine Run.skip ?_)
    first | refine Run.condT rfl rfl ?_ | refine Run.condF rfl rfl ?_ | refine Run.condT rfl (by assumption) ?_ | refine Run.condF rfl (by assumption) ?_
    repeat (first | refine Run.seq ?_ | refine Run.skip ?_ | refine Run.block ?_)
    refine Run.region ?_
    refine O.field hE L25 rfl rfl rfl rfl ?_
    first | refine O.loadS hE T3 rfl rfl rfl (by rfl) rfl ?_ | refine O.loadE hE T3 rfl rfl (by rfl) rfl ?_ | refine O.load hE T3 rfl rfl rfl rfl ?_
    first | refine O.cmp rfl rfl rfl (by first | exact dT (by omega) | exact dF (by omega)) rfl ?_ | refine O.cmp rfl rfl rfl rfl rfl ?_
    refine O.move rfl rfl ?_
    first | (refine O.yes rfl rfl (by trivial) ?_; refine O.field hE L25 rfl rfl rfl rfl ?_) | refine O.no rfl rfl rfl rfl ?_
    first | (refine O.yes rfl rfl (by trivial) ?_; first | refine O.loadS hE T3 rfl rfl rfl (by rfl) rfl ?_ | refine O.loadE hE T3 rfl rfl (by rfl) rfl ?_ | refine O.load hE T3 rfl rfl rfl rfl ?_) | refine O.no rfl rfl rfl rfl ?_
    first | (refine O.yes rfl rfl (by trivial) ?_; first | refine O.cmp rfl rfl rfl (by first | exact dT (by omega) | exact dF (by omega)) rfl ?_ | refine O.cmp rfl rfl rfl rfl rfl ?_) | refine O.no rfl rfl rfl rfl ?_
    refine O.pick rfl rfl rfl rfl rfl ?_
    refine O.nil ?_
    try refine Run.keep [0,1,2,3,4,5,9,18,27] rfl rfl ?_
    repeat (first | refine Run.seq ?_ | refine Run.skip ?_)
    first | refine Run.condT rfl rfl ?_ | refine Run.condF rfl rfl ?_ | refine Run.condT rfl (by assumption) ?_ | refine Run.condF rfl (by assumption) ?_
    repeat (first | refine Run.seq ?_ | refine Run.skip ?_ | refine Run.block ?_)
    refine Run.region ?_
    refine O.build hE T25 L25 rfl rfl rfl ?_
    refine O.store hE T25 rfl rfl rfl rfl rfl rfl ?_
    refine O.assign rfl rfl ?_
    refine O.nil ?_
    try refine Run.keep [0,1,2,3,4,5,9,18,27] rfl rfl ?_
    (repeat (first | refine Run.seq ?_ | refine Run.skip ?_)); (try refine Run.ret ?_); first | exact Ends.flat hE (.inr rfl) rfl rfl (AVle.of_eq rfl) rfl | exact Ends.flat hE (.inl rfl) rfl rfl (AVle.of_eq rfl) rfl
  ·
    have hw0 : wk = 0 := h.resolve_left hk
    repeat (first | refine Run.seq ?_ | refine Run.skip ?_ | refine Run.block ?_)
    refine Run.region ?_
    refine O.box 2 rfl (by first | rfl | exact cells_ones (by simp [ones_app, ones_ints, ones, AV.one, PV.one])) rfl rfl ?_
    refine O.box 3 rfl (by first | rfl | exact cells_ones (by simp [ones_app, ones_ints, ones, AV.one, PV.one])) rfl rfl ?_
    refine O.alloc hE 4 T25 rfl rfl rfl ?_
    refine O.assign rfl rfl ?_
    refine O.nil ?_
    try refine Run.keep [0,1,2,3,4,5,9,18,27] rfl rfl ?_
    repeat (first | refine Run.seq ?_ | refine Run.skip ?_ | refine Run.block ?_)
    refine Run.region ?_
    refine O.load hE T25 rfl rfl rfl rfl ?_
    refine O.load hE T25 rfl rfl rfl rfl ?_
    refine O.callE c1 rfl (by first | rfl | simp [closed, men3, mens2_app, mens2_ints, mens2, men2, men1, mens1_app, mens1_ints, mens1]) (by first | rfl | simp [d2, ds1_ints, ds1_app, ds1, d1, ds0_app, ds0_ints, ds0, d0]) rfl ?_
    refine O.un rfl rfl rfl rfl rfl ?_
    refine O.nil ?_
    try refine Run.keep [0,1,2,3,4,5,9,18,27] rfl rfl ?_
    repeat (first | refine Run.seq ?_ | refine Run.skip ?_)
    first | refine Run.condT rfl rfl ?_ | refine Run.condF rfl rfl ?_ | refine Run.condT rfl (by assumption) ?_ | refine Run.condF rfl (by assumption) ?_
    repeat (first | refine Run.seq ?_ | refine Run.skip ?_ | refine Run.block ?_)
    refine Run.region ?_
    refine O.field hE L25 rfl rfl rfl rfl ?_
    first | refine O.loadS hE T3 rfl rfl rfl (by rfl) rfl ?_ | refine O.loadE hE T3 rfl rfl (by rfl) rfl ?_ | refine O.load hE T3 rfl rfl rfl rfl ?_
    first | refine O.cmp rfl rfl rfl (by first | exact dT (by omega) | exact dF (by omega)) rfl ?_ | refine O.cmp rfl rfl rfl rfl rfl ?_
    refine O.move rfl rfl ?_
    first | (refine O.yes rfl rfl (by trivial) ?_; refine O.field hE L25 rfl rfl rfl rfl ?_) | refine O.no rfl rfl rfl rfl ?_
    first | (refine O.yes rfl rfl (by trivial) ?_; first | refine O.loadS hE T3 rfl rfl rfl (by rfl) rfl ?_ | refine O.loadE hE T3 rfl rfl (by rfl) rfl ?_ | refine O.load hE T3 rfl rfl rfl rfl ?_) | refine O.no rfl rfl rfl rfl ?_
    first | (refine O.yes rfl rfl (by trivial) ?_; first | refine O.cmp rfl rfl rfl (by first | exact dT (by omega) | exact dF (by omega)) rfl ?_ | refine O.cmp rfl rfl rfl rfl rfl ?_) | refine O.no rfl rfl rfl rfl ?_
    refine O.pick rfl rfl rfl rfl rfl ?_
    refine O.nil ?_
    try refine Run.keep [0,1,2,3,4,5,9,18,27] rfl rfl ?_
    repeat (first | refine Run.seq ?_ | refine Run.skip ?_)
    first | refine Run.condT rfl rfl ?_ | refine Run.condF rfl rfl ?_ | refine Run.condT rfl (by assumption) ?_ | refine Run.condF rfl (by assumption) ?_
    repeat (first | refine Run.seq ?_ | refine Run.skip ?_ | refine Run.block ?_)
    refine Run.region ?_
    refine O.build hE T25 L25 rfl rfl rfl ?_
    refine O.store hE T25 rfl rfl rfl rfl rfl rfl ?_
    refine O.assign rfl rfl ?_
    refine O.nil ?_
    try refine Run.keep [0,1,2,3,4,5,9,18,27] rfl rfl ?_
    (repeat (first | refine Run.seq ?_ | refine Run.skip ?_)); (try refine Run.ret ?_); first | exact Ends.flat hE (.inr rfl) rfl rfl (AVle.of_eq rfl) rfl | exact Ends.flat hE (.inl rfl) rfl rfl (AVle.of_eq rfl) rfl
theorem fnJoinE {s t : ByteArray} (hs : s.size ≤ 1000) (ht : t.size ≤ 1000) : FnC (En Tryd.prog g) 109 [vlA (vS s), vlA (vS t)] (.tup [vlA (joinP s t).1, .pv (.int .i64 (joinP s t).2)]) [] := by
  have hE := EnOk g
  have c1 := fnAskedE (g := g) (k := 4) (v := vS s) (w := vS t) (by omega) (.inl rfl) (.inl rfl)
  dsimp only [vlA, vS] at c1
  unfold joinP
  by_cases hk : 40 < s.size + t.size
  ·
    rw [if_pos hk]
    dsimp only [vlA, vS]
    exact FnC.go hE mixed Tryd.func109 [(8, .fn _ _ _ c1), (13, .b false), (17, .b false), (27, .b true)]
  ·
    rw [if_neg hk]
    dsimp only [vlA, vS]
    exact FnC.go hE mixed Tryd.func109 [(8, .fn _ _ _ c1), (13, .b false), (17, .b false), (27, .b false)]
end Go.Proofs.YtlcmnhocicehmaaDoor.Vm
end
section
namespace Go.Proofs.YtlcmnhocicehmaaDoor.Vm
open Go Go.RowKit Go.Lib
set_option linter.unusedVariables false
set_option linter.unusedSimpArgs false
attribute [local irreducible] Ops Dr Run
variable {g : Nat → Option (List PV)}
theorem fnReckNull {op : Int} {v w : Vl} (hv : Of 2 v) (hw : Of 2 w) (h : v.kd = 0 ∨ w.kd = 0) : FnC (En Tryd.prog g) 110 [.pv (.int .i64 op), vlA v, vlA w] (.tup [vlA v0, .pv (.int .i64 0)]) [] := by
  have hE := EnOk g
  have c1 := fnAskedE (g := g) (k := 2) (by omega) hv hw
  obtain ⟨vk, vn, vb, vs⟩ := v
  obtain ⟨wk, wn, wb, ws⟩ := w
  dsimp only at h
  dsimp only [vlA] at c1 ⊢
  refine FnC.of Tryd.func110 rfl rfl rfl rfl ?_
  by_cases hk : vk = 0
  ·
    repeat (first | refine Run.seq ?_ | refine Run.skip ?_ | refine Run.block ?_)
    refine Run.region ?_
    refine O.box 4 rfl (by first | rfl | exact cells_ones (by simp [ones_app, ones_ints, ones, AV.one, PV.one])) rfl rfl ?_
    refine O.box 5 rfl (by first | rfl | exact cells_ones (by simp [ones_app, ones_ints, ones, AV.one, PV.one])) rfl rfl ?_
    refine O.alloc hE 6 T25 rfl rfl rfl ?_
    refine O.assign rfl rfl ?_
    refine O.nil ?_
    try refine Run.keep [0,1,2,4,5,6,7,8,9,10,11,12,16,25,31,33,41,46,60,63,77,80,87,114] rfl rfl ?_
    repeat (first | refine Run.seq ?_ | refine Run.skip ?_ | refine Run.block ?_)
    refine Run.region ?_
    refine O.load hE T25 rfl rfl rfl rfl ?_
    refine O.load hE T25 rfl rfl rfl rfl ?_
    refine O.callE c1 rfl (by first | rfl | simp [closed, men3, mens2_app, mens2_ints, mens2, men2, men1, mens1_app, mens1_ints, mens1]) (by first | rfl | simp [d2, ds1_ints, ds1_app, ds1, d1, ds0_app, ds0_ints, ds0, d0]) rfl ?_
    refine O.un rfl rfl rfl rfl rfl ?_
    refine O.nil ?_
    try refine Run.keep [0,1,2,4,5,6,7,8,9,10,11,12,16,25,31,33,41,46,60,63,77,80,87,114] rfl rfl ?_
    repeat (first | refine Run.seq ?_ | refine Run.skip ?_)
    first | refine Run.condT rfl rfl ?_ | refine Run.condF rfl rfl ?_ | refine Run.condT rfl (by assumption) ?_ | refine Run.condF rfl (by assumption) ?_
    repeat (first | refine Run.seq ?_ | refine Run.skip ?_ | refine Run.block ?_)
    refine Run.region ?_
    refine O.field hE L25 rfl rfl rfl rfl ?_
    first | refine O.loadS hE T3 rfl rfl rfl (by rfl) rfl ?_ | refine O.loadE hE T3 rfl rfl (by rfl) rfl ?_ | refine O.load hE T3 rfl rfl rfl rfl ?_
    first | refine O.cmp rfl rfl rfl (by first | exact dT (by omega) | exact dF (by omega)) rfl ?_ | refine O.cmp rfl rfl rfl rfl rfl ?_
    refine O.move rfl rfl ?_
    first | (refine O.yes rfl rfl (by trivial) ?_; refine O.field hE L25 rfl rfl rfl rfl ?_) | refine O.no rfl rfl rfl rfl ?_
    first | (refine O.yes rfl rfl (by trivial) ?_; first | refine O.loadS hE T3 rfl rfl rfl (by rfl) rfl ?_ | refine O.loadE hE T3 rfl rfl (by rfl) rfl ?_ | refine O.load hE T3 rfl rfl rfl rfl ?_) | refine O.no rfl rfl rfl rfl ?_
    first | (refine O.yes rfl rfl (by trivial) ?_; first | refine O.cmp rfl rfl rfl (by first | exact dT (by omega) | exact dF (by omega)) rfl ?_ | refine O.cmp rfl rfl rfl rfl rfl ?_) | refine O.no rfl rfl rfl rfl ?_
    refine O.pick rfl rfl rfl rfl rfl ?_
    refine O.nil ?_
    try refine Run.keep [0,1,2,4,5,6,7,8,9,10,11,12,16,25,31,33,41,46,60,63,77,80,87,114] rfl rfl ?_
    repeat (first | refine Run.seq ?_ | refine Run.skip ?_)
    first | refine Run.condT rfl rfl ?_ | refine Run.condF rfl rfl ?_ | refine Run.condT rfl (by assumption) ?_ | refine Run.condF rfl (by assumption) ?_
    repeat (first | refine Run.seq ?_ | refine Run.skip ?_ | refine Run.block ?_)
    refine Run.region ?_
    refine O.build hE T25 L25 rfl rfl rfl ?_
    refine O.store hE T25 rfl rfl rfl rfl rfl rfl ?_
    refine O.assign rfl rfl ?_
    refine O.nil ?_
    try refine Run.keep [0,1,2,4,5,6,7,8,9,10,11,12,16,25,31,33,41,46,60,63,77,80,87,114] rfl rfl ?_
    (repeat (first | refine Run.seq ?_ | refine Run.skip ?_)); (try refine Run.ret ?_); first | exact Ends.flat hE (.inr rfl) rfl rfl (AVle.of_eq rfl) rfl | exact Ends.flat hE (.inl rfl) rfl rfl (AVle.of_eq rfl) rfl
  ·
    have hw0 : wk = 0 := h.resolve_left hk
    repeat (first | refine Run.seq ?_ | refine Run.skip ?_ | refine Run.block ?_)
    refine Run.region ?_
    refine O.box 4 rfl (by first | rfl | exact cells_ones (by simp [ones_app, ones_ints, ones, AV.one, PV.one])) rfl rfl ?_
    refine O.box 5 rfl (by first | rfl | exact cells_ones (by simp [ones_app, ones_ints, ones, AV.one, PV.one])) rfl rfl ?_
    refine O.alloc hE 6 T25 rfl rfl rfl ?_
    refine O.assign rfl rfl ?_
    refine O.nil ?_
    try refine Run.keep [0,1,2,4,5,6,7,8,9,10,11,12,16,25,31,33,41,46,60,63,77,80,87,114] rfl rfl ?_
    repeat (first | refine Run.seq ?_ | refine Run.skip ?_ | refine Run.block ?_)
    refine Run.region ?_
    refine O.load hE T25 rfl rfl rfl rfl ?_
    refine O.load hE T25 rfl rfl rfl rfl ?_
    refine O.callE c1 rfl (by first | rfl | simp [closed, men3, mens2_app, mens2_ints, mens2, men2, men1, mens1_app, mens1_ints, mens1]) (by first | rfl | simp [d2, ds1_ints, ds1_app, ds1, d1, ds0_app, ds0_ints, ds0, d0]) rfl ?_
    refine O.un rfl rfl rfl rfl rfl ?_
    refine O.nil ?_
    try refine Run.keep [0,1,2,4,5,6,7,8,9,10,11,12,16,25,31,33,41,46,60,63,77,80,87,114] rfl rfl ?_
    repeat (first | refine Run.seq ?_ | refine Run.skip ?_)
    first | refine Run.condT rfl rfl ?_ | refine Run.condF rfl rfl ?_ | refine Run.condT rfl (by assumption) ?_ | refine Run.condF rfl (by assumption) ?_
    repeat (first | refine Run.seq ?_ | refine Run.skip ?_ | refine Run.block ?_)
    refine Run.region ?_
    refine O.field hE L25 rfl rfl rfl rfl ?_
    first | refine O.loadS hE T3 rfl rfl rfl (by rfl) rfl ?_ | refine O.loadE hE T3 rfl rfl (by rfl) rfl ?_ | refine O.load hE T3 rfl rfl rfl rfl ?_
    first | refine O.cmp rfl rfl rfl (by first | exact dT (by omega) | exact dF (by omega)) rfl ?_ | refine O.cmp rfl rfl rfl rfl rfl ?_
    refine O.move rfl rfl ?_
    first | (refine O.yes rfl rfl (by trivial) ?_; refine O.field hE L25 rfl rfl rfl rfl ?_) | refine O.no rfl rfl rfl rfl ?_
    first | (refine O.yes rfl rfl (by trivial) ?_; first | refine O.loadS hE T3 rfl rfl rfl (by rfl) rfl ?_ | refine O.loadE hE T3 rfl rfl (by rfl) rfl ?_ | refine O.load hE T3 rfl rfl rfl rfl ?_) | refine O.no rfl rfl rfl rfl ?_
    first | (refine O.yes rfl rfl (by trivial) ?_; first | refine O.cmp rfl rfl rfl (by first | exact dT (by omega) | exact dF (by omega)) rfl ?_ | refine O.cmp rfl rfl rfl rfl rfl ?_) | refine O.no rfl rfl rfl rfl ?_
    refine O.pick rfl rfl rfl rfl rfl ?_
    refine O.nil ?_
    try refine Run.keep [0,1,2,4,5,6,7,8,9,10,11,12,16,25,31,33,41,46,60,63,77,80,87,114] rfl rfl ?_
    repeat (first | refine Run.seq ?_ | refine Run.skip ?_)
    first | refine Run.condT rfl rfl ?_ | refine Run.condF rfl rfl ?_ | refine Run.condT rfl (by assumption) ?_ | refine Run.condF rfl (by assumption) ?_
    repeat (first | refine Run.seq ?_ | refine Run.skip ?_ | refine Run.block ?_)
    refine Run.region ?_
    refine O.build hE T25 L25 rfl rfl rfl ?_
    refine O.store hE T25 rfl rfl rfl rfl rfl rfl ?_
    refine O.assign rfl rfl ?_
    refine O.nil ?_
    try refine Run.keep [0,1,2,4,5,6,7,8,9,10,11,12,16,25,31,33,41,46,60,63,77,80,87,114] rfl rfl ?_
    (repeat (first | refine Run.seq ?_ | refine Run.skip ?_)); (try refine Run.ret ?_); first | exact Ends.flat hE (.inr rfl) rfl rfl (AVle.of_eq rfl) rfl | exact Ends.flat hE (.inl rfl) rfl rfl (AVle.of_eq rfl) rfl
set_option maxHeartbeats 2000000 in
theorem fnReckAdd {a b : Int} (ha : inR a) (hb : inR b) : FnC (En Tryd.prog g) 110 [.pv (.int .i64 5), vlA (vN a), vlA (vN b)] (.tup [vlA (reck 5 a b).1, .pv (.int .i64 (reck 5 a b).2)]) [] := by
  have hE := EnOk g
  have c1 := fnAskedE (g := g) (k := 2) (v := vN a) (w := vN b) (by omega) (.inl rfl) (.inl rfl)
  dsimp only [vlA, vN] at c1
  by_cases h : inR (a + b)
  ·
    have e : reck 5 a b = (vN (a + b), 0) := by unfold reck; rw [if_pos rfl, if_pos h]
    unfold inR at h ha hb
    by_cases hb0 : 0 < b
    ·
      rw [e]
      have cn := fnNumber (g := g) (n := a + b)
      dsimp only [vlA, vN] at cn
      dsimp only [vlA, vN]
      exact FnC.go hE mixed Tryd.func110 [(15, .fn _ _ _ c1), (20, .b false), (24, .b false), (47, .b true), (53, .b true), (55, .b true), (56, .b true), (62, .fn _ _ _ cn)]
    ·
      rw [e]
      have cn := fnNumber (g := g) (n := a + b)
      dsimp only [vlA, vN] at cn
      dsimp only [vlA, vN]
      exact FnC.go hE mixed Tryd.func110 [(15, .fn _ _ _ c1), (20, .b false), (24, .b false), (47, .b true), (53, .b false), (55, .b false), (56, .b true), (62, .fn _ _ _ cn)]
  ·
    have e : reck 5 a b = (v0, 6) := by unfold reck; rw [if_pos rfl, if_neg h]
    unfold inR at h ha hb
    by_cases hb0 : 0 < b
    ·
      rw [e]
      have hW : IntKind.i64.wrap (a + b) = a + b - 18446744073709551616 := by rw [IntKind.wrap_i64]; omega
      dsimp only [vlA, vN]
      exact FnC.go hE mixed Tryd.func110 [(15, .fn _ _ _ c1), (20, .b false), (24, .b false), (47, .b true), (50, .w (a + b - 18446744073709551616)), (53, .b false), (55, .b true), (56, .b false), (59, .b false)]
    ·
      rw [e]
      have hW : IntKind.i64.wrap (a + b) = a + b + 18446744073709551616 := by rw [IntKind.wrap_i64]; omega
      dsimp only [vlA, vN]
      exact FnC.go hE mixed Tryd.func110 [(15, .fn _ _ _ c1), (20, .b false), (24, .b false), (47, .b true), (50, .w (a + b + 18446744073709551616)), (53, .b true), (55, .b false), (56, .b false), (59, .b false)]
set_option maxHeartbeats 2000000 in
theorem fnReckSub {a b : Int} (ha : inR a) (hb : inR b) : FnC (En Tryd.prog g) 110 [.pv (.int .i64 6), vlA (vN a), vlA (vN b)] (.tup [vlA (reck 6 a b).1, .pv (.int .i64 (reck 6 a b).2)]) [] := by
  have hE := EnOk g
  have c1 := fnAskedE (g := g) (k := 2) (v := vN a) (w := vN b) (by omega) (.inl rfl) (.inl rfl)
  dsimp only [vlA, vN] at c1
  by_cases h : inR (a - b)
  ·
    have e : reck 6 a b = (vN (a - b), 0) := by unfold reck; rw [if_neg (by omega), if_pos rfl, if_pos h]
    unfold inR at h ha hb
    by_cases hb0 : 0 < b
    ·
      rw [e]
      have cn := fnNumber (g := g) (n := a - b)
      dsimp only [vlA, vN] at cn
      dsimp only [vlA, vN]
      exact FnC.go hE mixed Tryd.func110 [(15, .fn _ _ _ c1), (20, .b false), (24, .b false), (47, .b false), (64, .b true), (70, .b true), (72, .b true), (73, .b true), (79, .fn _ _ _ cn)]
    ·
      rw [e]
      have cn := fnNumber (g := g) (n := a - b)
      dsimp only [vlA, vN] at cn
      dsimp only [vlA, vN]
      exact FnC.go hE mixed Tryd.func110 [(15, .fn _ _ _ c1), (20, .b false), (24, .b false), (47, .b false), (64, .b true), (70, .b false), (72, .b false), (73, .b true), (79, .fn _ _ _ cn)]
  ·
    have e : reck 6 a b = (v0, 6) := by unfold reck; rw [if_neg (by omega), if_pos rfl, if_neg h]
    unfold inR at h ha hb
    by_cases hb0 : 0 < b
    ·
      rw [e]
      have hW : IntKind.i64.wrap (a - b) = a - b + 18446744073709551616 := by rw [IntKind.wrap_i64]; omega
      dsimp only [vlA, vN]
      exact FnC.go hE mixed Tryd.func110 [(15, .fn _ _ _ c1), (20, .b false), (24, .b false), (47, .b false), (64, .b true), (67, .w (a - b + 18446744073709551616)), (70, .b false), (72, .b true), (73, .b false), (76, .b false)]
    ·
      rw [e]
      have hW : IntKind.i64.wrap (a - b) = a - b - 18446744073709551616 := by rw [IntKind.wrap_i64]; omega
      dsimp only [vlA, vN]
      exact FnC.go hE mixed Tryd.func110 [(15, .fn _ _ _ c1), (20, .b false), (24, .b false), (47, .b false), (64, .b true), (67, .w (a - b - 18446744073709551616)), (70, .b true), (72, .b false), (73, .b false), (76, .b false)]
set_option maxHeartbeats 2000000 in
theorem fnReckMul {a b : Int} (ha : inR a) (hb : inR b) : FnC (En Tryd.prog g) 110 [.pv (.int .i64 7), vlA (vN a), vlA (vN b)] (.tup [vlA (reck 7 a b).1, .pv (.int .i64 (reck 7 a b).2)]) [] := by
  have hE := EnOk g
  have c1 := fnAskedE (g := g) (k := 2) (v := vN a) (w := vN b) (by omega) (.inl rfl) (.inl rfl)
  dsimp only [vlA, vN] at c1
  by_cases ha0 : a = 0
  ·
    subst ha0
    rw [show reck 7 0 b = (vN 0, 0) by unfold reck; rw [if_neg (by omega), if_neg (by omega), if_pos rfl, Int.zero_mul, if_pos (by unfold inR; omega)]]
    have cn := fnNumber (g := g) (n := 0)
    dsimp only [vlA, vN] at cn
    dsimp only [vlA, vN]
    exact FnC.go hE mixed Tryd.func110 [(15, .fn _ _ _ c1), (20, .b false), (24, .b false), (47, .b false), (64, .b false), (81, .b true), (83, .b true), (88, .fn _ _ _ cn)]
  by_cases hb0 : b = 0
  ·
    subst hb0
    rw [show reck 7 a 0 = (vN 0, 0) by unfold reck; rw [if_neg (by omega), if_neg (by omega), if_pos rfl, Int.mul_zero, if_pos (by unfold inR; omega)]]
    have cn := fnNumber (g := g) (n := 0)
    dsimp only [vlA, vN] at cn
    dsimp only [vlA, vN]
    exact FnC.go hE mixed Tryd.func110 [(15, .fn _ _ _ c1), (20, .b false), (24, .b false), (47, .b false), (64, .b false), (81, .b true), (83, .b false), (86, .b true), (88, .fn _ _ _ cn)]
  have hQ0 : inR (a * b) → IntKind.i64.wrap ((IntKind.i64.wrap (a * b)).tdiv b) = a := fun h => by rw [wrap_id h]; exact mul_ok ha hb0
  have hQ1 : ¬ inR (a * b) → ¬ (b = -1 ∧ a = -9223372036854775808) → IntKind.i64.wrap ((IntKind.i64.wrap (a * b)).tdiv b) ≠ a := fun h h1 => mul_bad ha hb hb0 h h1
  have hx1 : a = -1 → b = -9223372036854775808 → ¬ inR (a * b) := fun h1 h2 => by subst h1; subst h2; unfold inR; omega
  have hx2 : b = -1 → a = -9223372036854775808 → ¬ inR (a * b) := fun h1 h2 => by subst h1; subst h2; unfold inR; omega
  have eT : inR (a * b) → reck 7 a b = (vN (a * b), 0) := fun h => by unfold reck; rw [if_neg (by omega), if_neg (by omega), if_pos rfl, if_pos h]
  have eF : ¬ inR (a * b) → reck 7 a b = (v0, 6) := fun h => by unfold reck; rw [if_neg (by omega), if_neg (by omega), if_pos rfl, if_neg h]
  have hW0 : inR (a * b) → IntKind.i64.wrap (a * b) = a * b := wrap_id
  obtain ⟨W, hW⟩ : ∃ W, IntKind.i64.wrap (a * b) = W := ⟨_, rfl⟩
  rw [hW] at hQ0 hQ1 hW0
  obtain ⟨Q, hQ⟩ : ∃ Q, IntKind.i64.wrap (W.tdiv b) = Q := ⟨_, rfl⟩
  rw [hQ] at hQ0 hQ1
  have hsh : (a = -1 ∧ b = -9223372036854775808) ∨ (b = -1 ∧ a = -9223372036854775808) ∨ (a = -1 ∧ b = -1) ∨ (a = -1 ∧ b ≠ -1 ∧ b ≠ -9223372036854775808) ∨ (a ≠ -1 ∧ b = -1 ∧ a ≠ -9223372036854775808) ∨ (a ≠ -1 ∧ b ≠ -1) := by omega
  rcases hsh with ⟨h1, h2⟩ | ⟨h1, h2⟩ | ⟨h1, h2⟩ | ⟨h1, h2, h3⟩ | ⟨h1, h2, h3⟩ | ⟨h1, h2⟩
  ·
    rw [eF (hx1 h1 h2)]
    clear hQ0 hQ1 hx1 hx2 eT eF hW0
    dsimp only [vlA, vN]
    exact FnC.go hE mixed Tryd.func110 [(15, .fn _ _ _ c1), (20, .b false), (24, .b false), (47, .b false), (64, .b false), (81, .b true), (83, .b false), (86, .b false), (91, .w W), (93, .b true), (96, .b true)]
  ·
    rw [eF (hx2 h1 h2)]
    clear hQ0 hQ1 hx1 hx2 eT eF hW0
    dsimp only [vlA, vN]
    exact FnC.go hE mixed Tryd.func110 [(15, .fn _ _ _ c1), (20, .b false), (24, .b false), (47, .b false), (64, .b false), (81, .b true), (83, .b false), (86, .b false), (91, .w W), (93, .b false), (101, .b true), (104, .b true)]
  ·
    by_cases h : inR (a * b)
    ·
      rw [eT h]
      have hQa := hQ0 h
      rw [← hW0 h]
      clear hQ0 hQ1 hx1 hx2 eT eF hW0 h
      have cn := fnNumber (g := g) (n := W)
      dsimp only [vlA, vN] at cn
      dsimp only [vlA, vN]
      exact FnC.go hE mixed Tryd.func110 [(15, .fn _ _ _ c1), (20, .b false), (24, .b false), (47, .b false), (64, .b false), (81, .b true), (83, .b false), (86, .b false), (91, .w W), (93, .b true), (96, .b false), (101, .b true), (104, .b false), (111, .w Q), (113, .b true), (116, .fn _ _ _ cn)]
    ·
      rw [eF h]
      have hQa := hQ1 h (by omega)
      clear hQ0 hQ1 hx1 hx2 eT eF hW0 h
      dsimp only [vlA, vN]
      exact FnC.go hE mixed Tryd.func110 [(15, .fn _ _ _ c1), (20, .b false), (24, .b false), (47, .b false), (64, .b false), (81, .b true), (83, .b false), (86, .b false), (91, .w W), (93, .b true), (96, .b false), (101, .b true), (104, .b false), (111, .w Q), (113, .b false)]
  ·
    by_cases h : inR (a * b)
    ·
      rw [eT h]
      have hQa := hQ0 h
      rw [← hW0 h]
      clear hQ0 hQ1 hx1 hx2 eT eF hW0 h
      have cn := fnNumber (g := g) (n := W)
      dsimp only [vlA, vN] at cn
      dsimp only [vlA, vN]
      exact FnC.go hE mixed Tryd.func110 [(15, .fn _ _ _ c1), (20, .b false), (24, .b false), (47, .b false), (64, .b false), (81, .b true), (83, .b false), (86, .b false), (91, .w W), (93, .b true), (96, .b false), (101, .b false), (111, .w Q), (113, .b true), (116, .fn _ _ _ cn)]
    ·
      rw [eF h]
      have hQa := hQ1 h (by omega)
      clear hQ0 hQ1 hx1 hx2 eT eF hW0 h
      dsimp only [vlA, vN]
      exact FnC.go hE mixed Tryd.func110 [(15, .fn _ _ _ c1), (20, .b false), (24, .b false), (47, .b false), (64, .b false), (81, .b true), (83, .b false), (86, .b false), (91, .w W), (93, .b true), (96, .b false), (101, .b false), (111, .w Q), (113, .b false)]
  ·
    by_cases h : inR (a * b)
    ·
      rw [eT h]
      have hQa := hQ0 h
      rw [← hW0 h]
      clear hQ0 hQ1 hx1 hx2 eT eF hW0 h
      have cn := fnNumber (g := g) (n := W)
      dsimp only [vlA, vN] at cn
      dsimp only [vlA, vN]
      exact FnC.go hE mixed Tryd.func110 [(15, .fn _ _ _ c1), (20, .b false), (24, .b false), (47, .b false), (64, .b false), (81, .b true), (83, .b false), (86, .b false), (91, .w W), (93, .b false), (101, .b true), (104, .b false), (111, .w Q), (113, .b true), (116, .fn _ _ _ cn)]
    ·
      rw [eF h]
      have hQa := hQ1 h (by omega)
      clear hQ0 hQ1 hx1 hx2 eT eF hW0 h
      dsimp only [vlA, vN]
      exact FnC.go hE mixed Tryd.func110 [(15, .fn _ _ _ c1), (20, .b false), (24, .b false), (47, .b false), (64, .b false), (81, .b true), (83, .b false), (86, .b false), (91, .w W), (93, .b false), (101, .b true), (104, .b false), (111, .w Q), (113, .b false)]
  ·
    by_cases h : inR (a * b)
    ·
      rw [eT h]
      have hQa := hQ0 h
      rw [← hW0 h]
      clear hQ0 hQ1 hx1 hx2 eT eF hW0 h
      have cn := fnNumber (g := g) (n := W)
      dsimp only [vlA, vN] at cn
      dsimp only [vlA, vN]
      exact FnC.go hE mixed Tryd.func110 [(15, .fn _ _ _ c1), (20, .b false), (24, .b false), (47, .b false), (64, .b false), (81, .b true), (83, .b false), (86, .b false), (91, .w W), (93, .b false), (101, .b false), (111, .w Q), (113, .b true), (116, .fn _ _ _ cn)]
    ·
      rw [eF h]
      have hQa := hQ1 h (by omega)
      clear hQ0 hQ1 hx1 hx2 eT eF hW0 h
      dsimp only [vlA, vN]
      exact FnC.go hE mixed Tryd.func110 [(15, .fn _ _ _ c1), (20, .b false), (24, .b false), (47, .b false), (64, .b false), (81, .b true), (83, .b false), (86, .b false), (91, .w W), (93, .b false), (101, .b false), (111, .w Q), (113, .b false)]
set_option maxHeartbeats 2000000 in
theorem fnReckDiv {a b : Int} (ha : inR a) (hb : inR b) : FnC (En Tryd.prog g) 110 [.pv (.int .i64 8), vlA (vN a), vlA (vN b)] (.tup [vlA (reck 8 a b).1, .pv (.int .i64 (reck 8 a b).2)]) [] := by
  have hE := EnOk g
  have c1 := fnAskedE (g := g) (k := 2) (v := vN a) (w := vN b) (by omega) (.inl rfl) (.inl rfl)
  dsimp only [vlA, vN] at c1
  by_cases hb0 : b = 0
  ·
    rw [show reck 8 a b = (v0, 7) by unfold reck; rw [if_neg (by omega), if_neg (by omega), if_neg (by omega), if_pos hb0]]
    dsimp only [vlA, vN]
    exact FnC.go hE mixed Tryd.func110 [(15, .fn _ _ _ c1), (20, .b false), (24, .b false), (47, .b false), (64, .b false), (81, .b false), (33, .b true)]
  by_cases hx : a = -9223372036854775808 ∧ b = -1
  ·
    obtain ⟨h1, h2⟩ := hx
    rw [show reck 8 a b = (v0, 6) by unfold reck; rw [if_neg (by omega), if_neg (by omega), if_neg (by omega), if_neg hb0, if_neg (by subst h1; subst h2; unfold inR; decide)]]
    dsimp only [vlA, vN]
    exact FnC.go hE mixed Tryd.func110 [(15, .fn _ _ _ c1), (20, .b false), (24, .b false), (47, .b false), (64, .b false), (81, .b false), (33, .b false), (36, .b true), (39, .b true)]
  have hin := tdiv_in ha hb0 hx
  have hQ := wrap_id hin
  have eT : reck 8 a b = (vN (a.tdiv b), 0) := by unfold reck; rw [if_neg (by omega), if_neg (by omega), if_neg (by omega), if_neg hb0, if_pos hin]
  clear hin
  obtain ⟨q, hq⟩ : ∃ q, a.tdiv b = q := ⟨_, rfl⟩
  rw [hq] at eT
  have hQ : IntKind.i64.wrap (a.tdiv b) = q := by rw [hQ, hq]
  by_cases h1 : a = -9223372036854775808
  ·
    have h2 : b ≠ -1 := fun e => hx ⟨h1, e⟩
    rw [eT]
    clear eT
    have cn := fnNumber (g := g) (n := q)
    dsimp only [vlA, vN] at cn
    dsimp only [vlA, vN]
    exact FnC.go hE mixed Tryd.func110 [(15, .fn _ _ _ c1), (20, .b false), (24, .b false), (47, .b false), (64, .b false), (81, .b false), (33, .b false), (36, .b true), (39, .b false), (44, .w q), (45, .fn _ _ _ cn)]
  ·
    rw [eT]
    clear eT
    have cn := fnNumber (g := g) (n := q)
    dsimp only [vlA, vN] at cn
    dsimp only [vlA, vN]
    exact FnC.go hE mixed Tryd.func110 [(15, .fn _ _ _ c1), (20, .b false), (24, .b false), (47, .b false), (64, .b false), (81, .b false), (33, .b false), (36, .b false), (44, .w q), (45, .fn _ _ _ cn)]
end Go.Proofs.YtlcmnhocicehmaaDoor.Vm
end
end
