/- Heaps of raw things: what comes next; columns; operations put together. Conditions: none. -/
import Derived.Test.YtdigejpgjnhclaaDoorKindF
import Derived.Test.YtdigejpgjnhclaaDoorAppS
namespace Go.Proofs.YtdigejpgjnhclaaDoor.Vm
open Go Go.RowKit Go.Lib
set_option linter.unusedVariables false
set_option linter.unusedSimpArgs false
attribute [local irreducible] Ops Dr Run
section
variable {E : Env} {n : Nat} {tm : List (Nat × AV)} {bx : List (Nat × Box)} {ops : Array Oper} {l : List Oper} {d : Tmp} {ty : TypeId} {pos : String} {after : Array Edge}
theorem D.nilK {Θ : List Rec → St → Prop} {y : Operand} {b o : Nat} (hy : evO E tm y = some (.ptr b o)) (hd : Nat.blt d n = true)
    (h : Dr E.P E.g ops l ⟨n, (d, .ptr b o) :: tm, bx⟩ (fun rs => Θ (⟨rtOf y (.ptr b o), [], [], some d, .ptr b o, []⟩ :: rs))) : Dr E.P E.g ops (⟨some d, .nilCheck y, ty, pos, after, none⟩ :: l) ⟨n, tm, bx⟩ Θ :=
  D.of (rt := rtOf y (.ptr b o)) (rb := []) (rt_now hy) none_met hd (fun s hs _ hd' => OpOk.nilCheck (s := s) (evO_ok (n := s.n) (bx := s.bx) (rt_ev hy hs)) (fun t ht => by obtain rfl := Option.some.inj ht; exact hd')) h
theorem D.remK {Θ : List Rec → St → Prop} {t t' : TypeId} {y z : Operand} {k : IntKind} {m j : Int} (hy : evO E tm y = some (.pv (.int k m))) (hz : evO E tm z = some (.pv (.int k j))) (h0 : 0 ≤ m) (hj : 0 < j) (hd : Nat.blt d n = true)
    (h : Dr E.P E.g ops l ⟨n, (d, .pv (.int k (m % j))) :: tm, bx⟩ (fun rs => Θ (⟨rtOf y (.pv (.int k m)) ++ rtOf z (.pv (.int k j)), [], [], some d, .pv (.int k (m % j)), []⟩ :: rs))) : Dr E.P E.g ops (⟨some d, .binOp .rem t y z t', ty, pos, after, none⟩ :: l) ⟨n, tm, bx⟩ Θ := by
  refine D.bin (v := .int k (m % j)) hy hz rfl rfl (now_bin ?_) rfl hd h
  simp only [Go.binOp, ne_eq, not_true, if_false, Op.intDiv]
  rw [if_neg (by omega), ← Int.tmod_eq_emod_of_nonneg h0]; rfl
theorem D.quoK {Θ : List Rec → St → Prop} {t t' : TypeId} {y z : Operand} {k : IntKind} {m j q : Int} (hy : evO E tm y = some (.pv (.int k m))) (hz : evO E tm z = some (.pv (.int k j))) (h0 : 0 ≤ m) (hj : 0 < j) (hq : k.wrap (m / j) = q) (hd : Nat.blt d n = true)
    (h : Dr E.P E.g ops l ⟨n, (d, .pv (.int k q)) :: tm, bx⟩ (fun rs => Θ (⟨rtOf y (.pv (.int k m)) ++ rtOf z (.pv (.int k j)), [], [], some d, .pv (.int k q), []⟩ :: rs))) : Dr E.P E.g ops (⟨some d, .binOp .quo t y z t', ty, pos, after, none⟩ :: l) ⟨n, tm, bx⟩ Θ := by
  subst hq
  refine D.bin (v := .int k (k.wrap (m / j))) hy hz rfl rfl (now_bin ?_) rfl hd h
  simp only [Go.binOp, ne_eq, not_true, if_false, Op.intDiv]
  rw [if_neg (by omega), ← Int.tdiv_eq_ediv_of_nonneg h0]; rfl
end
variable {g : Nat → Option (List PV)}
abbrev rwA (r : Rw) : AV := .agg [.pv (.int .i64 r.kd), .pv (.int .i64 r.a), .pv (.int .i64 r.b), .pv (.str r.s)]
/-- A heap: its raw things, how many have been given, its columns. -/
abbrev hpV (rs : List Rw) (k : Int) (cs : List Kol) : Box := .var [.pv (.lst 4 (rs.map rawE)), .pv (.int .i64 k), .pv (.lst 3 (cs.map kolE))]
theorem nxt_ok {rs : List Rw} (h : ∀ r ∈ rs, RwOk r) {k : Int} (hk : 0 ≤ k ∧ k ≤ 1000000) : RwOk (nxt rs k) := by
  unfold nxt
  split
  · unfold RwOk
    dsimp only
    rw [IntKind.wrap_i64]
    omega
  · unfold RwOk; dsimp only; omega
theorem fnNextHp {rs : List Rw} (hl : rs.length ≤ 40) {cs : List Kol} {k : Int} (hk : 0 ≤ k ∧ k ≤ 1000000) : FnL (EnL Tryd.prog g [200]) 40 [.ptr 200 0] [(200, hpV rs k cs)] (rwA (nxt rs k)) [(200, hpV rs (k + 1) cs)] := by
  have hE := EnLOk g [200]
  have hL : ((rs.map rawE).length : Int) = rs.length := by simp
  by_cases hr : rs = []
  ·
    subst hr
    rw [show nxt [] k = ⟨0, k + 1, k + 1, noS⟩ from rfl]
    refine FnL.of Tryd.func40 rfl rfl rfl rfl ?_
    repeat (first | refine Run.seq ?_ | refine Run.skip ?_ | refine Run.block ?_)
    refine Run.region ?_
    refine O.alloc hE 2 T51 rfl rfl rfl ?_
    refine O.nil ?_
    try refine Run.keep [0,2,3,16] rfl rfl ?_
    repeat (first | refine Run.seq ?_ | refine Run.skip ?_ | refine Run.block ?_)
    refine Run.region ?_
    refine O.move rfl rfl ?_
    refine O.nilCheck rfl rfl ?_
    refine O.field hE L60 rfl rfl rfl rfl ?_
    first | refine O.loadS hE T3 rfl rfl rfl (by rfl) rfl ?_ | refine O.loadE hE T3 rfl rfl (by rfl) rfl ?_ | refine O.load hE T3 rfl rfl rfl rfl ?_
    first | refine O.ar rfl rfl rfl (by exact wrap_i64 (by omega) (by omega)) rfl ?_ | refine O.ar rfl rfl rfl rfl rfl ?_
    refine O.nilCheck rfl rfl ?_
    refine O.field hE L60 rfl rfl rfl rfl ?_
    refine O.store hE T3 rfl rfl rfl rfl rfl rfl ?_
    refine O.nil ?_
    try refine Run.keep [0,2,3,16] rfl rfl ?_
    repeat (first | refine Run.seq ?_ | refine Run.skip ?_ | refine Run.block ?_)
    refine Run.region ?_
    refine O.move rfl rfl ?_
    refine O.nilCheck rfl rfl ?_
    refine O.field hE L60 rfl rfl rfl rfl ?_
    first | refine O.loadS hE T22 rfl rfl rfl (by rfl) rfl ?_ | refine O.loadE hE T22 rfl rfl (by rfl) rfl ?_ | refine O.load hE T22 rfl rfl rfl rfl ?_
    first | refine O.lenN hE T22 rfl rfl rfl (by first | exact newest_pv | exact newest_gl rfl rfl | trivial) lenC rfl ?_ | refine O.lenLst hE T22 rfl rfl rfl (by first | exact newest_pv | exact newest_gl rfl rfl | trivial) rfl ?_
    first | refine O.cmp rfl rfl rfl (by first | exact dT (by omega) | exact dF (by omega)) rfl ?_ | refine O.cmp rfl rfl rfl rfl rfl ?_
    refine O.nil ?_
    try refine Run.keep [0,2,3,16] rfl rfl ?_
    repeat (first | refine Run.seq ?_ | refine Run.skip ?_)
    first | refine Run.condT rfl rfl ?_ | refine Run.condF rfl rfl ?_ | refine Run.condT rfl (by assumption) ?_ | refine Run.condF rfl (by assumption) ?_
    repeat (first | refine Run.seq ?_ | refine Run.skip ?_ | refine Run.block ?_)
    refine Run.draw mixed rfl ?_
    refine D.move rfl rfl ?_
    refine D.nilK rfl rfl ?_
    refine D.field hE L60 rfl rfl rfl rfl ?_
    first | refine D.loadS hE T3 rfl rfl rfl (by rfl) rfl ?_ | refine D.loadE hE T3 rfl rfl (by rfl) rfl ?_ | refine D.load hE T3 rfl rfl rfl rfl ?_
    refine D.move rfl rfl ?_
    refine D.nilK rfl rfl ?_
    refine D.field hE L60 rfl rfl rfl rfl ?_
    first | refine D.loadS hE T3 rfl rfl rfl (by rfl) rfl ?_ | refine D.loadE hE T3 rfl rfl (by rfl) rfl ?_ | refine D.load hE T3 rfl rfl rfl rfl ?_
    refine D.build hE T51 L51 rfl rfl rfl ?_
    refine D.store hE T51 rfl rfl rfl rfl rfl rfl ?_
    refine Dr.nil ?_
    refine ⟨rfl, ?_⟩
    try refine Run.keep [0,2,3,16] rfl rfl ?_
    refine Run.ret ?_
    exact Ends.of hE (.inr rfl) rfl rfl (SLe.drop (by repeat (first | exact TmIn.nil | refine TmIn.cons rfl ?_)) (by repeat (first | exact BxIn.nil | refine BxIn.cons rfl ?_)) rfl rfl)
  ·
    have hpos : 0 < rs.length := List.length_pos_iff.2 hr
    have hm0 : 0 ≤ k % (rs.length : Int) := Int.emod_nonneg _ (by omega)
    have hm1 : k % (rs.length : Int) < rs.length := Int.emod_lt_of_pos _ (by omega)
    have hq0 : 0 ≤ (k + 1) / (rs.length : Int) := Int.ediv_nonneg (by omega) (by omega)
    have hq1 : (k + 1) / (rs.length : Int) ≤ k + 1 := Int.ediv_le_self _ (by omega)
    have hqw := wrap_i64 (x := (k + 1) / (rs.length : Int)) (by omega) (by omega)
    obtain ⟨r, hr⟩ : ∃ r, rs[(k % (rs.length : Int)).toNat]? = some r := ⟨_, List.getElem?_eq_getElem (by omega)⟩
    rw [show nxt rs k = ⟨r.kd, IntKind.i64.wrap (r.a + (k + 1) / (rs.length : Int)), r.b, r.s⟩ by unfold nxt; rw [hr]]
    have hat : (rs.map rawE)[((k + 1 - 1) % (rs.length : Int)).toNat]? = some (rawE r) := by
      rw [show k + 1 - 1 = k by omega, List.getElem?_map, hr]; rfl
    have hm2 : 0 ≤ (k + 1 - 1) % (rs.length : Int) := by rw [show k + 1 - 1 = k by omega]; exact hm0
    clear hm0 hm1
    obtain ⟨rk, ra, rb, rt⟩ := r
    dsimp only [rawE] at hat ⊢
    generalize (rs.length : Int) = L at *
    have hLp : 0 < L := by
      rcases Int.lt_or_le 0 L with h | h
      · exact h
      · have := hL.symm ▸ h
        rw [List.length_map] at this
        omega
    refine FnL.of Tryd.func40 rfl rfl rfl rfl ?_
    repeat (first | refine Run.seq ?_ | refine Run.skip ?_ | refine Run.block ?_)
    refine Run.region ?_
    refine O.alloc hE 2 T51 rfl rfl rfl ?_
    refine O.nil ?_
    try refine Run.keep [0,2,3,16] rfl rfl ?_
    repeat (first | refine Run.seq ?_ | refine Run.skip ?_ | refine Run.block ?_)
    refine Run.region ?_
    refine O.move rfl rfl ?_
    refine O.nilCheck rfl rfl ?_
    refine O.field hE L60 rfl rfl rfl rfl ?_
    first | refine O.loadS hE T3 rfl rfl rfl (by rfl) rfl ?_ | refine O.loadE hE T3 rfl rfl (by rfl) rfl ?_ | refine O.load hE T3 rfl rfl rfl rfl ?_
    first | refine O.ar rfl rfl rfl (by exact wrap_i64 (by omega) (by omega)) rfl ?_ | refine O.ar rfl rfl rfl rfl rfl ?_
    refine O.nilCheck rfl rfl ?_
    refine O.field hE L60 rfl rfl rfl rfl ?_
    refine O.store hE T3 rfl rfl rfl rfl rfl rfl ?_
    refine O.nil ?_
    try refine Run.keep [0,2,3,16] rfl rfl ?_
    repeat (first | refine Run.seq ?_ | refine Run.skip ?_ | refine Run.block ?_)
    refine Run.region ?_
    refine O.move rfl rfl ?_
    refine O.nilCheck rfl rfl ?_
    refine O.field hE L60 rfl rfl rfl rfl ?_
    first | refine O.loadS hE T22 rfl rfl rfl (by rfl) rfl ?_ | refine O.loadE hE T22 rfl rfl (by rfl) rfl ?_ | refine O.load hE T22 rfl rfl rfl rfl ?_
    refine O.lenN hE T22 rfl rfl rfl newest_pv hL rfl ?_
    first | refine O.cmp rfl rfl rfl (by first | exact dT (by omega) | exact dF (by omega)) rfl ?_ | refine O.cmp rfl rfl rfl rfl rfl ?_
    refine O.nil ?_
    try refine Run.keep [0,2,3,16] rfl rfl ?_
    repeat (first | refine Run.seq ?_ | refine Run.skip ?_)
    first | refine Run.condT rfl rfl ?_ | refine Run.condF rfl rfl ?_ | refine Run.condT rfl (by assumption) ?_ | refine Run.condF rfl (by assumption) ?_
    repeat (first | refine Run.seq ?_ | refine Run.skip ?_ | refine Run.block ?_)
    refine Run.draw mixed rfl ?_
    refine D.move rfl rfl ?_
    refine D.nilK rfl rfl ?_
    refine D.field hE L60 rfl rfl rfl rfl ?_
    first | refine D.loadS hE T22 rfl rfl rfl (by rfl) rfl ?_ | refine D.loadE hE T22 rfl rfl (by rfl) rfl ?_ | refine D.load hE T22 rfl rfl rfl rfl ?_
    refine D.move rfl rfl ?_
    refine D.nilK rfl rfl ?_
    refine D.field hE L60 rfl rfl rfl rfl ?_
    first | refine D.loadS hE T3 rfl rfl rfl (by rfl) rfl ?_ | refine D.loadE hE T3 rfl rfl (by rfl) rfl ?_ | refine D.load hE T3 rfl rfl rfl rfl ?_
    first | refine D.ar rfl rfl rfl (by exact wrap_i64 (by omega) (by omega)) rfl ?_ | refine D.ar rfl rfl rfl rfl rfl ?_
    refine D.move rfl rfl ?_
    refine D.nilK rfl rfl ?_
    refine D.field hE L60 rfl rfl rfl rfl ?_
    first | refine D.loadS hE T22 rfl rfl rfl (by rfl) rfl ?_ | refine D.loadE hE T22 rfl rfl (by rfl) rfl ?_ | refine D.load hE T22 rfl rfl rfl rfl ?_
    refine D.lenK hE T22 rfl rfl hL rfl ?_
    refine D.remK rfl rfl (by omega) hLp rfl ?_
    refine D.index hE T22 rfl T51 rfl rfl newest_pv rfl hm2 hat rfl rfl rfl ?_
    refine D.load hE T51 rfl rfl rfl rfl ?_
    refine D.alloc hE 3 T51 rfl rfl rfl ?_
    refine D.store hE T51 rfl rfl rfl rfl rfl rfl ?_
    refine Dr.nil ?_
    refine ⟨rfl, ?_⟩
    try refine Run.keep [0,2,3,16] rfl rfl ?_
    repeat (first | refine Run.seq ?_ | refine Run.skip ?_ | refine Run.block ?_)
    refine Run.draw mixed rfl ?_
    refine D.field hE L51 rfl rfl rfl rfl ?_
    first | refine D.loadS hE T3 rfl rfl rfl (by rfl) rfl ?_ | refine D.loadE hE T3 rfl rfl (by rfl) rfl ?_ | refine D.load hE T3 rfl rfl rfl rfl ?_
    refine D.move rfl rfl ?_
    refine D.nilK rfl rfl ?_
    refine D.field hE L60 rfl rfl rfl rfl ?_
    first | refine D.loadS hE T3 rfl rfl rfl (by rfl) rfl ?_ | refine D.loadE hE T3 rfl rfl (by rfl) rfl ?_ | refine D.load hE T3 rfl rfl rfl rfl ?_
    refine D.move rfl rfl ?_
    refine D.nilK rfl rfl ?_
    refine D.field hE L60 rfl rfl rfl rfl ?_
    first | refine D.loadS hE T22 rfl rfl rfl (by rfl) rfl ?_ | refine D.loadE hE T22 rfl rfl (by rfl) rfl ?_ | refine D.load hE T22 rfl rfl rfl rfl ?_
    refine D.lenK hE T22 rfl rfl hL rfl ?_
    refine D.quoK rfl rfl (by omega) hLp hqw rfl ?_
    refine D.ar rfl rfl rfl rfl rfl ?_
    refine D.field hE L51 rfl rfl rfl rfl ?_
    refine D.store hE T3 rfl rfl rfl rfl rfl rfl ?_
    refine Dr.nil ?_
    refine ⟨rfl, ?_⟩
    try refine Run.keep [0,2,3,16] rfl rfl ?_
    repeat (first | refine Run.seq ?_ | refine Run.skip ?_ | refine Run.block ?_)
    refine Run.region ?_
    refine O.load hE T51 rfl rfl rfl rfl ?_
    refine O.store hE T51 rfl rfl rfl rfl rfl rfl ?_
    refine O.nil ?_
    try refine Run.keep [0,2,3,16] rfl rfl ?_
    refine Run.ret ?_
    exact Ends.of hE (.inr rfl) rfl rfl (SLe.drop (by repeat (first | exact TmIn.nil | refine TmIn.cons rfl ?_)) (by repeat (first | exact BxIn.nil | refine BxIn.cons rfl ?_)) rfl rfl)
theorem fnOp1 {op : Int} (a : Xp) : FnC (En Tryd.prog g) 23 [.pv (.int .i64 op), xA a] (xA (.un op a)) [] := by
  have hE := EnOk g
  refine FnC.of Tryd.func23 rfl rfl rfl rfl ?_
  repeat (first | refine Run.seq ?_ | refine Run.skip ?_ | refine Run.block ?_)
  refine Run.region ?_
  refine O.box 3 rfl (by first | rfl | exact cells_ones (by simp [ones_app, ones_ints, ones, AV.one, PV.one])) rfl rfl ?_
  refine O.alloc hE 4 T28 rfl rfl rfl ?_
  refine O.nil ?_
  try refine Run.keep [0,1,3,4] rfl rfl ?_
  repeat (first | refine Run.seq ?_ | refine Run.skip ?_ | refine Run.block ?_)
  refine Run.region ?_
  refine O.move rfl rfl ?_
  refine O.load hE T28 rfl rfl rfl rfl ?_
  refine O.litV hE T26 rfl T28 rfl rfl rfl rfl rfl rfl rfl ?_
  refine O.build hE T28 L28 rfl rfl rfl ?_
  refine O.store hE T28 rfl rfl rfl rfl rfl rfl ?_
  refine O.nil ?_
  try refine Run.keep [0,1,3,4] rfl rfl ?_
  (repeat (first | refine Run.seq ?_ | refine Run.skip ?_)); (try refine Run.ret ?_); first | exact Ends.flat hE (.inr rfl) rfl rfl (AVle.of_eq rfl) rfl | exact Ends.flat hE (.inl rfl) rfl rfl (AVle.of_eq rfl) rfl
theorem fnOp2 {op : Int} (a b : Xp) : FnC (En Tryd.prog g) 15 [.pv (.int .i64 op), xA a, xA b] (xA (.bi op a b)) [] := by
  have hE := EnOk g
  refine FnC.of Tryd.func15 rfl rfl rfl rfl ?_
  repeat (first | refine Run.seq ?_ | refine Run.skip ?_ | refine Run.block ?_)
  refine Run.region ?_
  refine O.box 4 rfl (by first | rfl | exact cells_ones (by simp [ones_app, ones_ints, ones, AV.one, PV.one])) rfl rfl ?_
  refine O.box 5 rfl (by first | rfl | exact cells_ones (by simp [ones_app, ones_ints, ones, AV.one, PV.one])) rfl rfl ?_
  refine O.alloc hE 6 T28 rfl rfl rfl ?_
  refine O.nil ?_
  try refine Run.keep [0,1,2,4,5,6] rfl rfl ?_
  repeat (first | refine Run.seq ?_ | refine Run.skip ?_ | refine Run.block ?_)
  refine Run.region ?_
  refine O.move rfl rfl ?_
  refine O.load hE T28 rfl rfl rfl rfl ?_
  refine O.load hE T28 rfl rfl rfl rfl ?_
  refine O.litV hE T26 rfl T28 rfl rfl rfl rfl rfl rfl rfl ?_
  refine O.build hE T28 L28 rfl rfl rfl ?_
  refine O.store hE T28 rfl rfl rfl rfl rfl rfl ?_
  refine O.nil ?_
  try refine Run.keep [0,1,2,4,5,6] rfl rfl ?_
  (repeat (first | refine Run.seq ?_ | refine Run.skip ?_)); (try refine Run.ret ?_); first | exact Ends.flat hE (.inr rfl) rfl rfl (AVle.of_eq rfl) rfl | exact Ends.flat hE (.inl rfl) rfl rfl (AVle.of_eq rfl) rfl
end Go.Proofs.YtdigejpgjnhclaaDoor.Vm
