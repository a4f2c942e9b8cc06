/- Heaps of raw things: an expression of a kind is made. Conditions: none. -/
import Derived.Test.YtdigejpgjnhclaaDoorKindH
namespace Go.Proofs.YtdigejpgjnhclaaDoor.Vm
open Go Go.RowKit Go.Lib
set_option linter.unusedVariables false
set_option linter.unusedSimpArgs false
attribute [local irreducible] Ops Dr Run
/-- A function to which boxes are lent, of which some result and some boxes are told. -/
theorem FnL.ofExB {E : Env} {f : FuncId} {fn : Func} {c : Code} {args : List AV} {bi : List (Nat × Box)} {tm : List (Nat × AV)} {Q : AV → List (Nat × Box) → Prop} (hf : E.P.funcs[f]? = some fn) (hc : fn.body = some c) (hname : (fn.name == "runtime.NumGoroutine") = false) (hn : Nat.ble args.length fn.ntmps = true) (htm : params 0 args = tm)
    (h : Run E.P E.g c ⟨fn.ntmps, tm, bi⟩ (fun x s => ∃ r bo, Q r bo ∧ Ends E.P fn r bo x s)) : ∃ r bo, Q r bo ∧ FnL E f args bi r bo := by
  obtain ⟨x, s', h1, r, bo, hq, he⟩ := (show ∃ x s', _ from by unfold Run at h; exact h)
  exact ⟨r, bo, hq, FnL.of hf hc hname hn htm (by unfold Run; exact ⟨x, s', h1, he⟩)⟩
theorem men_a1 {bi : List (Nat × Box)} {a : AV} (ha : men3 bi a = true) : ∀ x ∈ [a], men3 bi x = true := fun x hx => by
  rw [List.mem_singleton.1 hx]; exact ha
theorem men_a2 {bi : List (Nat × Box)} {a b : AV} (ha : men3 bi a = true) (hb : men3 bi b = true) : ∀ x ∈ [a, b], men3 bi x = true := fun x hx => by
  rcases List.mem_cons.1 hx with rfl | hx
  · exact ha
  · exact men_a1 hb x hx
theorem men_a3 {bi : List (Nat × Box)} {a b c : AV} (ha : men3 bi a = true) (hb : men3 bi b = true) (hc : men3 bi c = true) : ∀ x ∈ [a, b, c], men3 bi x = true := fun x hx => by
  rcases List.mem_cons.1 hx with rfl | hx
  · exact ha
  · exact men_a2 hb hc x hx
theorem lit_dp {x : Xp} {D : Nat} (h : x.dp = 1) : x.dp ≤ D + 1 := by omega
theorem un_dp {a : Xp} {op : Int} {D : Nat} (h : a.dp ≤ D) : (Xp.un op a).dp ≤ D + 1 := by simp only [Xp.dp]; omega
theorem bi_dp {a b : Xp} {op : Int} {D : Nat} (h : a.dp ≤ D) (h2 : b.dp ≤ D) : (Xp.bi op a b).dp ≤ D + 1 := by simp only [Xp.dp]; omega
variable {g : Nat → Option (List PV)}
/-- What the making of an expression comes to. -/
def MkX (rs : List Rw) (cs : List Kol) (D : Nat) (k m : Int) (f : Xp → Int → Prop) : Prop := ∃ (x : Xp) (m' : Int), (m ≤ m' ∧ m' + 1 ≤ m + ((2 ^ D : Nat) : Int) ∧ Ty cs k x ∧ x.dp ≤ D) ∧ f x m'
set_option maxHeartbeats 6000000 in
theorem expr_ex {rs : List Rw} (hl : rs.length ≤ 40) (hr : ∀ r ∈ rs, RwOk r) {cs : List Kol} (hcs : ColsOk cs) : ∀ (D : Nat) (d : Int), 1 ≤ d → d ≤ D → D ≤ 10 → ∀ k : Int, 1 ≤ k → k ≤ 4 → ∀ m : Int, 0 ≤ m → m + ((2 ^ D : Nat) : Int) ≤ 1000000 →
    MkX rs cs D k m fun x m' => FnL (EnL Tryd.prog g [200]) 26 [.ptr 200 0, .pv (.int .i64 k), .pv (.int .i64 d)] [(200, hpV rs m cs)] (xA x) [(200, hpV rs m' cs)] := by
  intro D
  induction D with
  | zero => intro d h1 h2; omega
  | succ D ih =>
  intro d hd1 hd2 hD k hk1 hk4 m hm0 hmD
  have hE := EnLOk g [200]
  have hpw : 2 ^ (D + 1) = 2 * 2 ^ D := by rw [Nat.pow_succ]; omega
  have hpp : 0 < 2 ^ D := Nat.pow_pos (by omega)
  unfold MkX at ih ⊢
  rw [hpw] at hmD ⊢
  generalize 2 ^ D = pw at *
  suffices h : ∃ r bo, (∃ (x : Xp) (m' : Int), (m ≤ m' ∧ m' + 1 ≤ m + ((2 * pw : Nat) : Int) ∧ Ty cs k x ∧ x.dp ≤ D + 1) ∧ r = xA x ∧ bo = [(200, hpV rs m' cs)]) ∧ FnL (EnL Tryd.prog g [200]) 26 [.ptr 200 0, .pv (.int .i64 k), .pv (.int .i64 d)] [(200, hpV rs m cs)] r bo by
    obtain ⟨_, _, ⟨x, m', h1, rfl, rfl⟩, h2⟩ := h
    exact ⟨x, m', h1, h2⟩
  have cn := fnNextHp (g := g) (rs := rs) hl (cs := cs) (k := m) ⟨hm0, by omega⟩
  have hro := nxt_ok hr (k := m) ⟨hm0, by omega⟩
  obtain ⟨xl, hxl, hxd, cl⟩ := leaf_ex (g := g) (rs := rs) hcs ⟨hk1, hk4⟩ hro (m := m + 1)
  have sub : 2 ≤ d → ∀ kk : Int, 1 ≤ kk → kk ≤ 4 → ∃ (x : Xp) (m1 : Int), (m + 1 ≤ m1 ∧ m1 + 1 ≤ m + 1 + (pw : Int) ∧ Ty cs kk x ∧ x.dp ≤ D) ∧ FnL (EnL Tryd.prog g [200]) 26 [.ptr 200 0, .pv (.int .i64 kk), .pv (.int .i64 (d - 1))] [(200, hpV rs (m + 1) cs)] (xA x) [(200, hpV rs m1 cs)] :=
    fun h kk h1 h4 => ih (d - 1) (by omega) (by omega) (by omega) kk h1 h4 (m + 1) (by omega) (by omega)
  have sub2 : 2 ≤ d → ∀ kk : Int, 1 ≤ kk → kk ≤ 4 → ∀ m1 : Int, m + 1 ≤ m1 → m1 + 1 ≤ m + 1 + (pw : Int) → ∃ (x : Xp) (m2 : Int), (m1 ≤ m2 ∧ m2 + 1 ≤ m1 + (pw : Int) ∧ Ty cs kk x ∧ x.dp ≤ D) ∧ FnL (EnL Tryd.prog g [200]) 26 [.ptr 200 0, .pv (.int .i64 kk), .pv (.int .i64 (d - 1))] [(200, hpV rs m1 cs)] (xA x) [(200, hpV rs m2 cs)] :=
    fun h kk h1 h4 m1 ha hb => ih (d - 1) (by omega) (by omega) (by omega) kk h1 h4 m1 (by omega) (by omega)
  clear ih hr
  have c5 := (fnPick (g := g) (a := (nxt rs m).kd) (m := 5) (by omega) (by omega)).lent [200]
  have c7 := (fnPick (g := g) (a := (nxt rs m).b) (m := 7) (by omega) (by omega)).lent [200]
  have c4 := (fnPick (g := g) (a := (nxt rs m).a) (m := 4) (by omega) (by omega)).lent [200]
  have c6 := (fnPick (g := g) (a := (nxt rs m).a) (m := 6) (by omega) (by omega)).lent [200]
  have h7 : 0 ≤ (nxt rs m).b % 7 ∧ (nxt rs m).b % 7 < 7 := by omega
  have h4 : 0 ≤ (nxt rs m).a % 4 ∧ (nxt rs m).a % 4 < 4 := by omega
  have h6 : 0 ≤ (nxt rs m).a % 6 ∧ (nxt rs m).a % 6 < 6 := by omega
  clear hro
  generalize (nxt rs m).kd % 5 = z5 at *
  generalize (nxt rs m).b % 7 = z7 at *
  generalize (nxt rs m).a % 4 = z4 at *
  generalize (nxt rs m).a % 6 = z6 at *
  generalize nxt rs m = rw at *
  obtain ⟨rk, ra, rb, rt⟩ := rw
  dsimp only at c4 c5 c6 c7
  dsimp only [rwA] at cn cl
  refine FnL.ofExB Tryd.func26 rfl rfl rfl rfl ?_
  by_cases hdd : d ≤ 1
  ·
    repeat (first | refine Run.seq ?_ | refine Run.skip ?_ | refine Run.block ?_)
    refine Run.region ?_
    refine O.alloc hE 6 T28 rfl rfl rfl ?_
    refine O.nil ?_
    try refine Run.keep [0,1,2,6,7,8,9,19,29,30,32,33,39,45,67,73,74,81,96,116,119] rfl rfl ?_
    repeat (first | refine Run.seq ?_ | refine Run.skip ?_ | refine Run.block ?_)
    refine Run.region ?_
    refine O.move rfl rfl ?_
    refine O.lend (ln := [200]) cn rfl rfl rfl (.inr (men_a1 rfl)) (by repeat (first | exact BxIn.nil | refine BxIn.cons rfl ?_)) rfl rfl rfl rfl rfl rfl rfl rfl rfl rfl ?_
    refine O.alloc hE 7 T51 rfl rfl rfl ?_
    refine O.store hE T51 rfl rfl rfl rfl rfl rfl ?_
    refine O.nil ?_
    try refine Run.keep [0,1,2,6,7,8,9,19,29,30,32,33,39,45,67,73,74,81,96,116,119] rfl rfl ?_
    repeat (first | refine Run.seq ?_ | refine Run.skip ?_ | refine Run.block ?_)
    refine Run.region ?_
    refine O.move rfl rfl ?_
    first | refine O.cmp rfl rfl rfl (by first | exact dT (by omega) | exact dF (by omega)) rfl ?_ | refine O.cmp rfl rfl rfl rfl rfl ?_
    refine O.move rfl rfl ?_
    first | (refine O.yes rfl rfl (by trivial) ?_; refine O.field hE L51 rfl rfl rfl rfl ?_) | refine O.no rfl rfl rfl rfl ?_
    first | (refine O.yes rfl rfl (by trivial) ?_; first | refine O.loadS hE T3 rfl rfl rfl (by rfl) rfl ?_ | refine O.loadE hE T3 rfl rfl (by rfl) rfl ?_ | refine O.load hE T3 rfl rfl rfl rfl ?_) | refine O.no rfl rfl rfl rfl ?_
    first | (refine O.yes rfl rfl (by trivial) ?_; refine O.no rfl rfl rfl rfl ?_) | refine O.no rfl rfl rfl rfl ?_
    first | (refine O.yes rfl rfl (by trivial) ?_; first | refine O.cmp rfl rfl rfl (by first | exact dT (by omega) | exact dF (by omega)) rfl ?_ | refine O.cmp rfl rfl rfl rfl rfl ?_) | refine O.no rfl rfl rfl rfl ?_
    refine O.pick rfl rfl rfl rfl rfl ?_
    refine O.nil ?_
    try refine Run.keep [0,1,2,6,7,8,9,19,29,30,32,33,39,45,67,73,74,81,96,116,119] rfl rfl ?_
    repeat (first | refine Run.seq ?_ | refine Run.skip ?_)
    first | refine Run.condT rfl rfl ?_ | refine Run.condF rfl rfl ?_ | refine Run.condT rfl (by assumption) ?_ | refine Run.condF rfl (by assumption) ?_
    repeat (first | refine Run.seq ?_ | refine Run.skip ?_ | refine Run.block ?_)
    refine Run.region ?_
    refine O.move rfl rfl ?_
    refine O.move rfl rfl ?_
    refine O.load hE T51 rfl rfl rfl rfl ?_
    refine O.lend (ln := [200]) cl rfl rfl rfl (.inr (men_a3 rfl rfl rfl)) (by repeat (first | exact BxIn.nil | refine BxIn.cons rfl ?_)) rfl rfl rfl rfl rfl rfl rfl rfl rfl rfl ?_
    refine O.store hE T28 rfl rfl rfl rfl rfl rfl ?_
    refine O.nil ?_
    try refine Run.keep [0,1,2,6,7,8,9,19,29,30,32,33,39,45,67,73,74,81,96,116,119] rfl rfl ?_
    refine Run.ret ?_
    exact ⟨_, _, ⟨xl, m + 1, ⟨by omega, by omega, hxl, lit_dp hxd⟩, rfl, rfl⟩, Ends.of hE (.inr rfl) rfl rfl (SLe.drop (by repeat (first | exact TmIn.nil | refine TmIn.cons rfl ?_)) (by repeat (first | exact BxIn.nil | refine BxIn.cons rfl ?_)) rfl rfl)⟩
  by_cases h5 : z5 = 0
  ·
    repeat (first | refine Run.seq ?_ | refine Run.skip ?_ | refine Run.block ?_)
    refine Run.region ?_
    refine O.alloc hE 6 T28 rfl rfl rfl ?_
    refine O.nil ?_
    try refine Run.keep [0,1,2,6,7,8,9,19,29,30,32,33,39,45,67,73,74,81,96,116,119] rfl rfl ?_
    repeat (first | refine Run.seq ?_ | refine Run.skip ?_ | refine Run.block ?_)
    refine Run.region ?_
    refine O.move rfl rfl ?_
    refine O.lend (ln := [200]) cn rfl rfl rfl (.inr (men_a1 rfl)) (by repeat (first | exact BxIn.nil | refine BxIn.cons rfl ?_)) rfl rfl rfl rfl rfl rfl rfl rfl rfl rfl ?_
    refine O.alloc hE 7 T51 rfl rfl rfl ?_
    refine O.store hE T51 rfl rfl rfl rfl rfl rfl ?_
    refine O.nil ?_
    try refine Run.keep [0,1,2,6,7,8,9,19,29,30,32,33,39,45,67,73,74,81,96,116,119] rfl rfl ?_
    repeat (first | refine Run.seq ?_ | refine Run.skip ?_ | refine Run.block ?_)
    refine Run.region ?_
    refine O.move rfl rfl ?_
    first | refine O.cmp rfl rfl rfl (by first | exact dT (by omega) | exact dF (by omega)) rfl ?_ | refine O.cmp rfl rfl rfl rfl rfl ?_
    refine O.move rfl rfl ?_
    first | (refine O.yes rfl rfl (by trivial) ?_; refine O.field hE L51 rfl rfl rfl rfl ?_) | refine O.no rfl rfl rfl rfl ?_
    first | (refine O.yes rfl rfl (by trivial) ?_; first | refine O.loadS hE T3 rfl rfl rfl (by rfl) rfl ?_ | refine O.loadE hE T3 rfl rfl (by rfl) rfl ?_ | refine O.load hE T3 rfl rfl rfl rfl ?_) | refine O.no rfl rfl rfl rfl ?_
    first | (refine O.yes rfl rfl (by trivial) ?_; refine O.callE c5 rfl (by first | rfl | simp [closed, men3, mens2_app, mens2_ints, mens2, men2, men1, mens1_app, mens1_ints, mens1]) (by first | rfl | simp [d2, ds1_ints, ds1_app, ds1, d1, ds0_app, ds0_ints, ds0, d0]) rfl ?_) | refine O.no rfl rfl rfl rfl ?_
    first | (refine O.yes rfl rfl (by trivial) ?_; first | refine O.cmp rfl rfl rfl (by first | exact dT (by omega) | exact dF (by omega)) rfl ?_ | refine O.cmp rfl rfl rfl rfl rfl ?_) | refine O.no rfl rfl rfl rfl ?_
    refine O.pick rfl rfl rfl rfl rfl ?_
    refine O.nil ?_
    try refine Run.keep [0,1,2,6,7,8,9,19,29,30,32,33,39,45,67,73,74,81,96,116,119] rfl rfl ?_
    repeat (first | refine Run.seq ?_ | refine Run.skip ?_)
    first | refine Run.condT rfl rfl ?_ | refine Run.condF rfl rfl ?_ | refine Run.condT rfl (by assumption) ?_ | refine Run.condF rfl (by assumption) ?_
    repeat (first | refine Run.seq ?_ | refine Run.skip ?_ | refine Run.block ?_)
    refine Run.region ?_
    refine O.move rfl rfl ?_
    refine O.move rfl rfl ?_
    refine O.load hE T51 rfl rfl rfl rfl ?_
    refine O.lend (ln := [200]) cl rfl rfl rfl (.inr (men_a3 rfl rfl rfl)) (by repeat (first | exact BxIn.nil | refine BxIn.cons rfl ?_)) rfl rfl rfl rfl rfl rfl rfl rfl rfl rfl ?_
    refine O.store hE T28 rfl rfl rfl rfl rfl rfl ?_
    refine O.nil ?_
    try refine Run.keep [0,1,2,6,7,8,9,19,29,30,32,33,39,45,67,73,74,81,96,116,119] rfl rfl ?_
    refine Run.ret ?_
    exact ⟨_, _, ⟨xl, m + 1, ⟨by omega, by omega, hxl, lit_dp hxd⟩, rfl, rfl⟩, Ends.of hE (.inr rfl) rfl rfl (SLe.drop (by repeat (first | exact TmIn.nil | refine TmIn.cons rfl ?_)) (by repeat (first | exact BxIn.nil | refine BxIn.cons rfl ?_)) rfl rfl)⟩
  have hd2 : 2 ≤ d := by omega
  have hkc : k = 1 ∨ k = 2 ∨ k = 3 ∨ k = 4 := by omega
  rcases hkc with rfl | rfl | rfl | rfl
  ·
    have hz : z7 = 0 ∨ z7 = 1 ∨ z7 = 2 ∨ z7 = 3 ∨ 4 ≤ z7 := by omega
    rcases hz with rfl | rfl | rfl | rfl | hz
    ·
      obtain ⟨x1, m1, ⟨a1, a2, a3, a4⟩, cx1⟩ := sub hd2 1 (by omega) (by omega)
      have co := (fnOp1 (g := g) (op := 4) x1).lent [200]
      repeat (first | refine Run.seq ?_ | refine Run.skip ?_ | refine Run.block ?_)
      refine Run.region ?_
      refine O.alloc hE 6 T28 rfl rfl rfl ?_
      refine O.nil ?_
      try refine Run.keep [0,1,2,6,7,8,9,19,29,30,32,33,39,45,67,73,74,81,96,116,119] rfl rfl ?_
      repeat (first | refine Run.seq ?_ | refine Run.skip ?_ | refine Run.block ?_)
      refine Run.region ?_
      refine O.move rfl rfl ?_
      refine O.lend (ln := [200]) cn rfl rfl rfl (.inr (men_a1 rfl)) (by repeat (first | exact BxIn.nil | refine BxIn.cons rfl ?_)) rfl rfl rfl rfl rfl rfl rfl rfl rfl rfl ?_
      refine O.alloc hE 7 T51 rfl rfl rfl ?_
      refine O.store hE T51 rfl rfl rfl rfl rfl rfl ?_
      refine O.nil ?_
      try refine Run.keep [0,1,2,6,7,8,9,19,29,30,32,33,39,45,67,73,74,81,96,116,119] rfl rfl ?_
      repeat (first | refine Run.seq ?_ | refine Run.skip ?_ | refine Run.block ?_)
      refine Run.region ?_
      refine O.move rfl rfl ?_
      first | refine O.cmp rfl rfl rfl (by first | exact dT (by omega) | exact dF (by omega)) rfl ?_ | refine O.cmp rfl rfl rfl rfl rfl ?_
      refine O.move rfl rfl ?_
      first | (refine O.yes rfl rfl (by trivial) ?_; refine O.field hE L51 rfl rfl rfl rfl ?_) | refine O.no rfl rfl rfl rfl ?_
      first | (refine O.yes rfl rfl (by trivial) ?_; first | refine O.loadS hE T3 rfl rfl rfl (by rfl) rfl ?_ | refine O.loadE hE T3 rfl rfl (by rfl) rfl ?_ | refine O.load hE T3 rfl rfl rfl rfl ?_) | refine O.no rfl rfl rfl rfl ?_
      first | (refine O.yes rfl rfl (by trivial) ?_; refine O.callE c5 rfl (by first | rfl | simp [closed, men3, mens2_app, mens2_ints, mens2, men2, men1, mens1_app, mens1_ints, mens1]) (by first | rfl | simp [d2, ds1_ints, ds1_app, ds1, d1, ds0_app, ds0_ints, ds0, d0]) rfl ?_) | refine O.no rfl rfl rfl rfl ?_
      first | (refine O.yes rfl rfl (by trivial) ?_; first | refine O.cmp rfl rfl rfl (by first | exact dT (by omega) | exact dF (by omega)) rfl ?_ | refine O.cmp rfl rfl rfl rfl rfl ?_) | refine O.no rfl rfl rfl rfl ?_
      refine O.pick rfl rfl rfl rfl rfl ?_
      refine O.nil ?_
      try refine Run.keep [0,1,2,6,7,8,9,19,29,30,32,33,39,45,67,73,74,81,96,116,119] rfl rfl ?_
      repeat (first | refine Run.seq ?_ | refine Run.skip ?_)
      first | refine Run.condT rfl rfl ?_ | refine Run.condF rfl rfl ?_ | refine Run.condT rfl (by assumption) ?_ | refine Run.condF rfl (by assumption) ?_
      repeat (first | refine Run.seq ?_ | refine Run.skip ?_ | refine Run.block ?_)
      refine Run.region ?_
      refine O.move rfl rfl ?_
      first | refine O.ar rfl rfl rfl (by exact wrap_i64 (by omega) (by omega)) rfl ?_ | refine O.ar rfl rfl rfl rfl rfl ?_
      refine O.assign rfl rfl ?_
      refine O.nil ?_
      try refine Run.keep [0,1,2,6,7,8,9,19,29,30,32,33,39,45,67,73,74,81,96,116,119] rfl rfl ?_
      repeat (first | refine Run.seq ?_ | refine Run.skip ?_ | refine Run.block ?_)
      refine Run.region ?_
      refine O.field hE L51 rfl rfl rfl rfl ?_
      first | refine O.loadS hE T3 rfl rfl rfl (by rfl) rfl ?_ | refine O.loadE hE T3 rfl rfl (by rfl) rfl ?_ | refine O.load hE T3 rfl rfl rfl rfl ?_
      refine O.callE c7 rfl (by first | rfl | simp [closed, men3, mens2_app, mens2_ints, mens2, men2, men1, mens1_app, mens1_ints, mens1]) (by first | rfl | simp [d2, ds1_ints, ds1_app, ds1, d1, ds0_app, ds0_ints, ds0, d0]) rfl ?_
      refine O.assign rfl rfl ?_
      refine O.nil ?_
      try refine Run.keep [0,1,2,6,7,8,9,19,29,30,32,33,39,45,67,73,74,81,96,116,119] rfl rfl ?_
      repeat (first | refine Run.seq ?_ | refine Run.skip ?_ | refine Run.block ?_)
      refine Run.region ?_
      refine O.move rfl rfl ?_
      refine O.nil ?_
      try refine Run.keep [0,1,2,6,7,8,9,19,29,30,32,33,39,45,67,73,74,81,96,116,119] rfl rfl ?_
      repeat (first | refine Run.seq ?_ | refine Run.skip ?_ | refine Run.block ?_)
      refine Run.region ?_
      first | refine O.cmp rfl rfl rfl (by first | exact dT (by omega) | exact dF (by omega)) rfl ?_ | refine O.cmp rfl rfl rfl rfl rfl ?_
      refine O.assign rfl rfl ?_
      refine O.nil ?_
      try refine Run.keep [0,1,2,6,7,8,9,19,29,30,32,33,39,45,67,73,74,81,96,116,119] rfl rfl ?_
      repeat (first | refine Run.seq ?_ | refine Run.skip ?_)
      first | refine Run.condT rfl rfl ?_ | refine Run.condF rfl rfl ?_ | refine Run.condT rfl (by assumption) ?_ | refine Run.condF rfl (by assumption) ?_
      repeat (first | refine Run.seq ?_ | refine Run.skip ?_ | refine Run.block ?_)
      refine Run.region ?_
      first | refine O.cmp rfl rfl rfl (by first | exact dT (by omega) | exact dF (by omega)) rfl ?_ | refine O.cmp rfl rfl rfl rfl rfl ?_
      refine O.assign rfl rfl ?_
      refine O.nil ?_
      try refine Run.keep [0,1,2,6,7,8,9,19,29,30,32,33,39,45,67,73,74,81,96,116,119] rfl rfl ?_
      repeat (first | refine Run.seq ?_ | refine Run.skip ?_)
      first | refine Run.condT rfl rfl ?_ | refine Run.condF rfl rfl ?_ | refine Run.condT rfl (by assumption) ?_ | refine Run.condF rfl (by assumption) ?_
      repeat (first | refine Run.seq ?_ | refine Run.skip ?_ | refine Run.block ?_)
      refine Run.region ?_
      refine O.field hE L51 rfl rfl rfl rfl ?_
      first | refine O.loadS hE T3 rfl rfl rfl (by rfl) rfl ?_ | refine O.loadE hE T3 rfl rfl (by rfl) rfl ?_ | refine O.load hE T3 rfl rfl rfl rfl ?_
      refine O.callE c4 rfl (by first | rfl | simp [closed, men3, mens2_app, mens2_ints, mens2, men2, men1, mens1_app, mens1_ints, mens1]) (by first | rfl | simp [d2, ds1_ints, ds1_app, ds1, d1, ds0_app, ds0_ints, ds0, d0]) rfl ?_
      first | refine O.ar rfl rfl rfl (by exact wrap_i64 (by omega) (by omega)) rfl ?_ | refine O.ar rfl rfl rfl rfl rfl ?_
      refine O.assign rfl rfl ?_
      refine O.nil ?_
      try refine Run.keep [0,1,2,6,7,8,9,19,29,30,32,33,39,45,67,73,74,81,96,116,119] rfl rfl ?_
      repeat (first | refine Run.seq ?_ | refine Run.skip ?_ | refine Run.block ?_)
      refine Run.region ?_
      refine O.move rfl rfl ?_
      refine O.nil ?_
      try refine Run.keep [0,1,2,6,7,8,9,19,29,30,32,33,39,45,67,73,74,81,96,116,119] rfl rfl ?_
      repeat (first | refine Run.seq ?_ | refine Run.skip ?_ | refine Run.block ?_)
      refine Run.region ?_
      first | refine O.cmp rfl rfl rfl (by first | exact dT (by omega) | exact dF (by omega)) rfl ?_ | refine O.cmp rfl rfl rfl rfl rfl ?_
      refine O.assign rfl rfl ?_
      refine O.nil ?_
      try refine Run.keep [0,1,2,6,7,8,9,19,29,30,32,33,39,45,67,73,74,81,96,116,119] rfl rfl ?_
      repeat (first | refine Run.seq ?_ | refine Run.skip ?_)
      first | refine Run.condT rfl rfl ?_ | refine Run.condF rfl rfl ?_ | refine Run.condT rfl (by assumption) ?_ | refine Run.condF rfl (by assumption) ?_
      repeat (first | refine Run.seq ?_ | refine Run.skip ?_ | refine Run.block ?_)
      refine Run.region ?_
      refine O.move rfl rfl ?_
      refine O.move rfl rfl ?_
      refine O.move rfl rfl ?_
      refine O.lend (ln := [200]) cx1 rfl rfl rfl (.inr (men_a3 rfl rfl rfl)) (by repeat (first | exact BxIn.nil | refine BxIn.cons rfl ?_)) rfl rfl rfl rfl rfl rfl rfl rfl rfl rfl ?_
      refine O.callE co rfl (by first | rfl | simp [closed, men3, mens2_app, mens2_ints, mens2, men2, men1, mens1_app, mens1_ints, mens1]) (by first | rfl | simp [d2, ds1_ints, ds1_app, ds1, d1, ds0_app, ds0_ints, ds0, d0]) rfl ?_
      refine O.store hE T28 rfl rfl rfl rfl rfl rfl ?_
      refine O.nil ?_
      try refine Run.keep [0,1,2,6,7,8,9,19,29,30,32,33,39,45,67,73,74,81,96,116,119] rfl rfl ?_
      refine Run.ret ?_
      exact ⟨_, _, ⟨.un 4 x1, m1, ⟨by omega, by omega, .un (by unfold UnTy; omega) a3, un_dp a4⟩, rfl, rfl⟩, Ends.of hE (.inr rfl) rfl rfl (SLe.drop (by repeat (first | exact TmIn.nil | refine TmIn.cons rfl ?_)) (by repeat (first | exact BxIn.nil | refine BxIn.cons rfl ?_)) rfl rfl)⟩
    ·
      obtain ⟨x1, m1, ⟨a1, a2, a3, a4⟩, cx1⟩ := sub hd2 1 (by omega) (by omega)
      obtain ⟨x2, m2, ⟨b1, b2, b3, b4⟩, cx2⟩ := sub2 hd2 1 (by omega) (by omega) m1 (by omega) (by omega)
      have co := (fnOp2 (g := g) (op := 15 + 1 - 1) x1 x2).lent [200]
      repeat (first | refine Run.seq ?_ | refine Run.skip ?_ | refine Run.block ?_)
      refine Run.region ?_
      refine O.alloc hE 6 T28 rfl rfl rfl ?_
      refine O.nil ?_
      try refine Run.keep [0,1,2,6,7,8,9,19,29,30,32,33,39,45,67,73,74,81,96,116,119] rfl rfl ?_
      repeat (first | refine Run.seq ?_ | refine Run.skip ?_ | refine Run.block ?_)
      refine Run.region ?_
      refine O.move rfl rfl ?_
      refine O.lend (ln := [200]) cn rfl rfl rfl (.inr (men_a1 rfl)) (by repeat (first | exact BxIn.nil | refine BxIn.cons rfl ?_)) rfl rfl rfl rfl rfl rfl rfl rfl rfl rfl ?_
      refine O.alloc hE 7 T51 rfl rfl rfl ?_
      refine O.store hE T51 rfl rfl rfl rfl rfl rfl ?_
      refine O.nil ?_
      try refine Run.keep [0,1,2,6,7,8,9,19,29,30,32,33,39,45,67,73,74,81,96,116,119] rfl rfl ?_
      repeat (first | refine Run.seq ?_ | refine Run.skip ?_ | refine Run.block ?_)
      refine Run.region ?_
      refine O.move rfl rfl ?_
      first | refine O.cmp rfl rfl rfl (by first | exact dT (by omega) | exact dF (by omega)) rfl ?_ | refine O.cmp rfl rfl rfl rfl rfl ?_
      refine O.move rfl rfl ?_
      first | (refine O.yes rfl rfl (by trivial) ?_; refine O.field hE L51 rfl rfl rfl rfl ?_) | refine O.no rfl rfl rfl rfl ?_
      first | (refine O.yes rfl rfl (by trivial) ?_; first | refine O.loadS hE T3 rfl rfl rfl (by rfl) rfl ?_ | refine O.loadE hE T3 rfl rfl (by rfl) rfl ?_ | refine O.load hE T3 rfl rfl rfl rfl ?_) | refine O.no rfl rfl rfl rfl ?_
      first | (refine O.yes rfl rfl (by trivial) ?_; refine O.callE c5 rfl (by first | rfl | simp [closed, men3, mens2_app, mens2_ints, mens2, men2, men1, mens1_app, mens1_ints, mens1]) (by first | rfl | simp [d2, ds1_ints, ds1_app, ds1, d1, ds0_app, ds0_ints, ds0, d0]) rfl ?_) | refine O.no rfl rfl rfl rfl ?_
      first | (refine O.yes rfl rfl (by trivial) ?_; first | refine O.cmp rfl rfl rfl (by first | exact dT (by omega) | exact dF (by omega)) rfl ?_ | refine O.cmp rfl rfl rfl rfl rfl ?_) | refine O.no rfl rfl rfl rfl ?_
      refine O.pick rfl rfl rfl rfl rfl ?_
      refine O.nil ?_
      try refine Run.keep [0,1,2,6,7,8,9,19,29,30,32,33,39,45,67,73,74,81,96,116,119] rfl rfl ?_
      repeat (first | refine Run.seq ?_ | refine Run.skip ?_)
      first | refine Run.condT rfl rfl ?_ | refine Run.condF rfl rfl ?_ | refine Run.condT rfl (by assumption) ?_ | refine Run.condF rfl (by assumption) ?_
      repeat (first | refine Run.seq ?_ | refine Run.skip ?_ | refine Run.block ?_)
      refine Run.region ?_
      refine O.move rfl rfl ?_
      first | refine O.ar rfl rfl rfl (by exact wrap_i64 (by omega) (by omega)) rfl ?_ | refine O.ar rfl rfl rfl rfl rfl ?_
      refine O.assign rfl rfl ?_
      refine O.nil ?_
      try refine Run.keep [0,1,2,6,7,8,9,19,29,30,32,33,39,45,67,73,74,81,96,116,119] rfl rfl ?_
      repeat (first | refine Run.seq ?_ | refine Run.skip ?_ | refine Run.block ?_)
      refine Run.region ?_
      refine O.field hE L51 rfl rfl rfl rfl ?_
      first | refine O.loadS hE T3 rfl rfl rfl (by rfl) rfl ?_ | refine O.loadE hE T3 rfl rfl (by rfl) rfl ?_ | refine O.load hE T3 rfl rfl rfl rfl ?_
      refine O.callE c7 rfl (by first | rfl | simp [closed, men3, mens2_app, mens2_ints, mens2, men2, men1, mens1_app, mens1_ints, mens1]) (by first | rfl | simp [d2, ds1_ints, ds1_app, ds1, d1, ds0_app, ds0_ints, ds0, d0]) rfl ?_
      refine O.assign rfl rfl ?_
      refine O.nil ?_
      try refine Run.keep [0,1,2,6,7,8,9,19,29,30,32,33,39,45,67,73,74,81,96,116,119] rfl rfl ?_
      repeat (first | refine Run.seq ?_ | refine Run.skip ?_ | refine Run.block ?_)
      refine Run.region ?_
      refine O.move rfl rfl ?_
      refine O.nil ?_
      try refine Run.keep [0,1,2,6,7,8,9,19,29,30,32,33,39,45,67,73,74,81,96,116,119] rfl rfl ?_
      repeat (first | refine Run.seq ?_ | refine Run.skip ?_ | refine Run.block ?_)
      refine Run.region ?_
      first | refine O.cmp rfl rfl rfl (by first | exact dT (by omega) | exact dF (by omega)) rfl ?_ | refine O.cmp rfl rfl rfl rfl rfl ?_
      refine O.assign rfl rfl ?_
      refine O.nil ?_
      try refine Run.keep [0,1,2,6,7,8,9,19,29,30,32,33,39,45,67,73,74,81,96,116,119] rfl rfl ?_
      repeat (first | refine Run.seq ?_ | refine Run.skip ?_)
      first | refine Run.condT rfl rfl ?_ | refine Run.condF rfl rfl ?_ | refine Run.condT rfl (by assumption) ?_ | refine Run.condF rfl (by assumption) ?_
      repeat (first | refine Run.seq ?_ | refine Run.skip ?_ | refine Run.block ?_)
      refine Run.region ?_
      first | refine O.cmp rfl rfl rfl (by first | exact dT (by omega) | exact dF (by omega)) rfl ?_ | refine O.cmp rfl rfl rfl rfl rfl ?_
      refine O.assign rfl rfl ?_
      refine O.nil ?_
      try refine Run.keep [0,1,2,6,7,8,9,19,29,30,32,33,39,45,67,73,74,81,96,116,119] rfl rfl ?_
      repeat (first | refine Run.seq ?_ | refine Run.skip ?_)
      first | refine Run.condT rfl rfl ?_ | refine Run.condF rfl rfl ?_ | refine Run.condT rfl (by assumption) ?_ | refine Run.condF rfl (by assumption) ?_
      repeat (first | refine Run.seq ?_ | refine Run.skip ?_ | refine Run.block ?_)
      refine Run.region ?_
      refine O.field hE L51 rfl rfl rfl rfl ?_
      first | refine O.loadS hE T3 rfl rfl rfl (by rfl) rfl ?_ | refine O.loadE hE T3 rfl rfl (by rfl) rfl ?_ | refine O.load hE T3 rfl rfl rfl rfl ?_
      refine O.callE c4 rfl (by first | rfl | simp [closed, men3, mens2_app, mens2_ints, mens2, men2, men1, mens1_app, mens1_ints, mens1]) (by first | rfl | simp [d2, ds1_ints, ds1_app, ds1, d1, ds0_app, ds0_ints, ds0, d0]) rfl ?_
      first | refine O.ar rfl rfl rfl (by exact wrap_i64 (by omega) (by omega)) rfl ?_ | refine O.ar rfl rfl rfl rfl rfl ?_
      refine O.assign rfl rfl ?_
      refine O.nil ?_
      try refine Run.keep [0,1,2,6,7,8,9,19,29,30,32,33,39,45,67,73,74,81,96,116,119] rfl rfl ?_
      repeat (first | refine Run.seq ?_ | refine Run.skip ?_ | refine Run.block ?_)
      refine Run.region ?_
      refine O.move rfl rfl ?_
      refine O.nil ?_
      try refine Run.keep [0,1,2,6,7,8,9,19,29,30,32,33,39,45,67,73,74,81,96,116,119] rfl rfl ?_
      repeat (first | refine Run.seq ?_ | refine Run.skip ?_ | refine Run.block ?_)
      refine Run.region ?_
      first | refine O.cmp rfl rfl rfl (by first | exact dT (by omega) | exact dF (by omega)) rfl ?_ | refine O.cmp rfl rfl rfl rfl rfl ?_
      refine O.assign rfl rfl ?_
      refine O.nil ?_
      try refine Run.keep [0,1,2,6,7,8,9,19,29,30,32,33,39,45,67,73,74,81,96,116,119] rfl rfl ?_
      repeat (first | refine Run.seq ?_ | refine Run.skip ?_)
      first | refine Run.condT rfl rfl ?_ | refine Run.condF rfl rfl ?_ | refine Run.condT rfl (by assumption) ?_ | refine Run.condF rfl (by assumption) ?_
      repeat (first | refine Run.seq ?_ | refine Run.skip ?_ | refine Run.block ?_)
      refine Run.region ?_
      first | refine O.cmp rfl rfl rfl (by first | exact dT (by omega) | exact dF (by omega)) rfl ?_ | refine O.cmp rfl rfl rfl rfl rfl ?_
      refine O.assign rfl rfl ?_
      refine O.nil ?_
      try refine Run.keep [0,1,2,6,7,8,9,19,29,30,32,33,39,45,67,73,74,81,96,116,119] rfl rfl ?_
      repeat (first | refine Run.seq ?_ | refine Run.skip ?_)
      first | refine Run.condT rfl rfl ?_ | refine Run.condF rfl rfl ?_ | refine Run.condT rfl (by assumption) ?_ | refine Run.condF rfl (by assumption) ?_
      repeat (first | refine Run.seq ?_ | refine Run.skip ?_)
      first | refine Run.condT rfl rfl ?_ | refine Run.condF rfl rfl ?_ | refine Run.condT rfl (by assumption) ?_ | refine Run.condF rfl (by assumption) ?_
      repeat (first | refine Run.seq ?_ | refine Run.skip ?_ | refine Run.block ?_)
      refine Run.region ?_
      refine O.move rfl rfl ?_
      first | refine O.ar rfl rfl rfl (by exact wrap_i64 (by omega) (by omega)) rfl ?_ | refine O.ar rfl rfl rfl rfl rfl ?_
      first | refine O.ar rfl rfl rfl (by exact wrap_i64 (by omega) (by omega)) rfl ?_ | refine O.ar rfl rfl rfl rfl rfl ?_
      refine O.move rfl rfl ?_
      refine O.move rfl rfl ?_
      refine O.move rfl rfl ?_
      refine O.lend (ln := [200]) cx1 rfl rfl rfl (.inr (men_a3 rfl rfl rfl)) (by repeat (first | exact BxIn.nil | refine BxIn.cons rfl ?_)) rfl rfl rfl rfl rfl rfl rfl rfl rfl rfl ?_
      refine O.move rfl rfl ?_
      refine O.move rfl rfl ?_
      refine O.move rfl rfl ?_
      refine O.lend (ln := [200]) cx2 rfl rfl rfl (.inr (men_a3 rfl rfl rfl)) (by repeat (first | exact BxIn.nil | refine BxIn.cons rfl ?_)) rfl rfl rfl rfl rfl rfl rfl rfl rfl rfl ?_
      refine O.callE co rfl (by first | rfl | simp [closed, men3, mens2_app, mens2_ints, mens2, men2, men1, mens1_app, mens1_ints, mens1]) (by first | rfl | simp [d2, ds1_ints, ds1_app, ds1, d1, ds0_app, ds0_ints, ds0, d0]) rfl ?_
      refine O.store hE T28 rfl rfl rfl rfl rfl rfl ?_
      refine O.nil ?_
      try refine Run.keep [0,1,2,6,7,8,9,19,29,30,32,33,39,45,67,73,74,81,96,116,119] rfl rfl ?_
      refine Run.ret ?_
      exact ⟨_, _, ⟨.bi (15 + 1 - 1) x1 x2, m2, ⟨by omega, by omega, .bi (by unfold BiTy; omega) a3 b3, bi_dp a4 b4⟩, rfl, rfl⟩, Ends.of hE (.inr rfl) rfl rfl (SLe.drop (by repeat (first | exact TmIn.nil | refine TmIn.cons rfl ?_)) (by repeat (first | exact BxIn.nil | refine BxIn.cons rfl ?_)) rfl rfl)⟩
    ·
      obtain ⟨x1, m1, ⟨a1, a2, a3, a4⟩, cx1⟩ := sub hd2 1 (by omega) (by omega)
      obtain ⟨x2, m2, ⟨b1, b2, b3, b4⟩, cx2⟩ := sub2 hd2 1 (by omega) (by omega) m1 (by omega) (by omega)
      have co := (fnOp2 (g := g) (op := 15 + 2 - 1) x1 x2).lent [200]
      repeat (first | refine Run.seq ?_ | refine Run.skip ?_ | refine Run.block ?_)
      refine Run.region ?_
      refine O.alloc hE 6 T28 rfl rfl rfl ?_
      refine O.nil ?_
      try refine Run.keep [0,1,2,6,7,8,9,19,29,30,32,33,39,45,67,73,74,81,96,116,119] rfl rfl ?_
      repeat (first | refine Run.seq ?_ | refine Run.skip ?_ | refine Run.block ?_)
      refine Run.region ?_
      refine O.move rfl rfl ?_
      refine O.lend (ln := [200]) cn rfl rfl rfl (.inr (men_a1 rfl)) (by repeat (first | exact BxIn.nil | refine BxIn.cons rfl ?_)) rfl rfl rfl rfl rfl rfl rfl rfl rfl rfl ?_
      refine O.alloc hE 7 T51 rfl rfl rfl ?_
      refine O.store hE T51 rfl rfl rfl rfl rfl rfl ?_
      refine O.nil ?_
      try refine Run.keep [0,1,2,6,7,8,9,19,29,30,32,33,39,45,67,73,74,81,96,116,119] rfl rfl ?_
      repeat (first | refine Run.seq ?_ | refine Run.skip ?_ | refine Run.block ?_)
      refine Run.region ?_
      refine O.move rfl rfl ?_
      first | refine O.cmp rfl rfl rfl (by first | exact dT (by omega) | exact dF (by omega)) rfl ?_ | refine O.cmp rfl rfl rfl rfl rfl ?_
      refine O.move rfl rfl ?_
      first | (refine O.yes rfl rfl (by trivial) ?_; refine O.field hE L51 rfl rfl rfl rfl ?_) | refine O.no rfl rfl rfl rfl ?_
      first | (refine O.yes rfl rfl (by trivial) ?_; first | refine O.loadS hE T3 rfl rfl rfl (by rfl) rfl ?_ | refine O.loadE hE T3 rfl rfl (by rfl) rfl ?_ | refine O.load hE T3 rfl rfl rfl rfl ?_) | refine O.no rfl rfl rfl rfl ?_
      first | (refine O.yes rfl rfl (by trivial) ?_; refine O.callE c5 rfl (by first | rfl | simp [closed, men3, mens2_app, mens2_ints, mens2, men2, men1, mens1_app, mens1_ints, mens1]) (by first | rfl | simp [d2, ds1_ints, ds1_app, ds1, d1, ds0_app, ds0_ints, ds0, d0]) rfl ?_) | refine O.no rfl rfl rfl rfl ?_
      first | (refine O.yes rfl rfl (by trivial) ?_; first | refine O.cmp rfl rfl rfl (by first | exact dT (by omega) | exact dF (by omega)) rfl ?_ | refine O.cmp rfl rfl rfl rfl rfl ?_) | refine O.no rfl rfl rfl rfl ?_
      refine O.pick rfl rfl rfl rfl rfl ?_
      refine O.nil ?_
      try refine Run.keep [0,1,2,6,7,8,9,19,29,30,32,33,39,45,67,73,74,81,96,116,119] rfl rfl ?_
      repeat (first | refine Run.seq ?_ | refine Run.skip ?_)
      first | refine Run.condT rfl rfl ?_ | refine Run.condF rfl rfl ?_ | refine Run.condT rfl (by assumption) ?_ | refine Run.condF rfl (by assumption) ?_
      repeat (first | refine Run.seq ?_ | refine Run.skip ?_ | refine Run.block ?_)
      refine Run.region ?_
      refine O.move rfl rfl ?_
      first | refine O.ar rfl rfl rfl (by exact wrap_i64 (by omega) (by omega)) rfl ?_ | refine O.ar rfl rfl rfl rfl rfl ?_
      refine O.assign rfl rfl ?_
      refine O.nil ?_
      try refine Run.keep [0,1,2,6,7,8,9,19,29,30,32,33,39,45,67,73,74,81,96,116,119] rfl rfl ?_
      repeat (first | refine Run.seq ?_ | refine Run.skip ?_ | refine Run.block ?_)
      refine Run.region ?_
      refine O.field hE L51 rfl rfl rfl rfl ?_
      first | refine O.loadS hE T3 rfl rfl rfl (by rfl) rfl ?_ | refine O.loadE hE T3 rfl rfl (by rfl) rfl ?_ | refine O.load hE T3 rfl rfl rfl rfl ?_
      refine O.callE c7 rfl (by first | rfl | simp [closed, men3, mens2_app, mens2_ints, mens2, men2, men1, mens1_app, mens1_ints, mens1]) (by first | rfl | simp [d2, ds1_ints, ds1_app, ds1, d1, ds0_app, ds0_ints, ds0, d0]) rfl ?_
      refine O.assign rfl rfl ?_
      refine O.nil ?_
      try refine Run.keep [0,1,2,6,7,8,9,19,29,30,32,33,39,45,67,73,74,81,96,116,119] rfl rfl ?_
      repeat (first | refine Run.seq ?_ | refine Run.skip ?_ | refine Run.block ?_)
      refine Run.region ?_
      refine O.move rfl rfl ?_
      refine O.nil ?_
      try refine Run.keep [0,1,2,6,7,8,9,19,29,30,32,33,39,45,67,73,74,81,96,116,119] rfl rfl ?_
      repeat (first | refine Run.seq ?_ | refine Run.skip ?_ | refine Run.block ?_)
      refine Run.region ?_
      first | refine O.cmp rfl rfl rfl (by first | exact dT (by omega) | exact dF (by omega)) rfl ?_ | refine O.cmp rfl rfl rfl rfl rfl ?_
      refine O.assign rfl rfl ?_
      refine O.nil ?_
      try refine Run.keep [0,1,2,6,7,8,9,19,29,30,32,33,39,45,67,73,74,81,96,116,119] rfl rfl ?_
      repeat (first | refine Run.seq ?_ | refine Run.skip ?_)
      first | refine Run.condT rfl rfl ?_ | refine Run.condF rfl rfl ?_ | refine Run.condT rfl (by assumption) ?_ | refine Run.condF rfl (by assumption) ?_
      repeat (first | refine Run.seq ?_ | refine Run.skip ?_ | refine Run.block ?_)
      refine Run.region ?_
      first | refine O.cmp rfl rfl rfl (by first | exact dT (by omega) | exact dF (by omega)) rfl ?_ | refine O.cmp rfl rfl rfl rfl rfl ?_
      refine O.assign rfl rfl ?_
      refine O.nil ?_
      try refine Run.keep [0,1,2,6,7,8,9,19,29,30,32,33,39,45,67,73,74,81,96,116,119] rfl rfl ?_
      repeat (first | refine Run.seq ?_ | refine Run.skip ?_)
      first | refine Run.condT rfl rfl ?_ | refine Run.condF rfl rfl ?_ | refine Run.condT rfl (by assumption) ?_ | refine Run.condF rfl (by assumption) ?_
      repeat (first | refine Run.seq ?_ | refine Run.skip ?_ | refine Run.block ?_)
      refine Run.region ?_
      refine O.field hE L51 rfl rfl rfl rfl ?_
      first | refine O.loadS hE T3 rfl rfl rfl (by rfl) rfl ?_ | refine O.loadE hE T3 rfl rfl (by rfl) rfl ?_ | refine O.load hE T3 rfl rfl rfl rfl ?_
      refine O.callE c4 rfl (by first | rfl | simp [closed, men3, mens2_app, mens2_ints, mens2, men2, men1, mens1_app, mens1_ints, mens1]) (by first | rfl | simp [d2, ds1_ints, ds1_app, ds1, d1, ds0_app, ds0_ints, ds0, d0]) rfl ?_
      first | refine O.ar rfl rfl rfl (by exact wrap_i64 (by omega) (by omega)) rfl ?_ | refine O.ar rfl rfl rfl rfl rfl ?_
      refine O.assign rfl rfl ?_
      refine O.nil ?_
      try refine Run.keep [0,1,2,6,7,8,9,19,29,30,32,33,39,45,67,73,74,81,96,116,119] rfl rfl ?_
      repeat (first | refine Run.seq ?_ | refine Run.skip ?_ | refine Run.block ?_)
      refine Run.region ?_
      refine O.move rfl rfl ?_
      refine O.nil ?_
      try refine Run.keep [0,1,2,6,7,8,9,19,29,30,32,33,39,45,67,73,74,81,96,116,119] rfl rfl ?_
      repeat (first | refine Run.seq ?_ | refine Run.skip ?_ | refine Run.block ?_)
      refine Run.region ?_
      first | refine O.cmp rfl rfl rfl (by first | exact dT (by omega) | exact dF (by omega)) rfl ?_ | refine O.cmp rfl rfl rfl rfl rfl ?_
      refine O.assign rfl rfl ?_
      refine O.nil ?_
      try refine Run.keep [0,1,2,6,7,8,9,19,29,30,32,33,39,45,67,73,74,81,96,116,119] rfl rfl ?_
      repeat (first | refine Run.seq ?_ | refine Run.skip ?_)
      first | refine Run.condT rfl rfl ?_ | refine Run.condF rfl rfl ?_ | refine Run.condT rfl (by assumption) ?_ | refine Run.condF rfl (by assumption) ?_
      repeat (first | refine Run.seq ?_ | refine Run.skip ?_ | refine Run.block ?_)
      refine Run.region ?_
      first | refine O.cmp rfl rfl rfl (by first | exact dT (by omega) | exact dF (by omega)) rfl ?_ | refine O.cmp rfl rfl rfl rfl rfl ?_
      refine O.assign rfl rfl ?_
      refine O.nil ?_
      try refine Run.keep [0,1,2,6,7,8,9,19,29,30,32,33,39,45,67,73,74,81,96,116,119] rfl rfl ?_
      repeat (first | refine Run.seq ?_ | refine Run.skip ?_)
      first | refine Run.condT rfl rfl ?_ | refine Run.condF rfl rfl ?_ | refine Run.condT rfl (by assumption) ?_ | refine Run.condF rfl (by assumption) ?_
      repeat (first | refine Run.seq ?_ | refine Run.skip ?_ | refine Run.block ?_)
      refine Run.region ?_
      first | refine O.cmp rfl rfl rfl (by first | exact dT (by omega) | exact dF (by omega)) rfl ?_ | refine O.cmp rfl rfl rfl rfl rfl ?_
      refine O.assign rfl rfl ?_
      refine O.nil ?_
      try refine Run.keep [0,1,2,6,7,8,9,19,29,30,32,33,39,45,67,73,74,81,96,116,119] rfl rfl ?_
      repeat (first | refine Run.seq ?_ | refine Run.skip ?_)
      first | refine Run.condT rfl rfl ?_ | refine Run.condF rfl rfl ?_ | refine Run.condT rfl (by assumption) ?_ | refine Run.condF rfl (by assumption) ?_
      repeat (first | refine Run.seq ?_ | refine Run.skip ?_ | refine Run.block ?_)
      refine Run.region ?_
      refine O.move rfl rfl ?_
      first | refine O.ar rfl rfl rfl (by exact wrap_i64 (by omega) (by omega)) rfl ?_ | refine O.ar rfl rfl rfl rfl rfl ?_
      first | refine O.ar rfl rfl rfl (by exact wrap_i64 (by omega) (by omega)) rfl ?_ | refine O.ar rfl rfl rfl rfl rfl ?_
      refine O.move rfl rfl ?_
      refine O.move rfl rfl ?_
      refine O.move rfl rfl ?_
      refine O.lend (ln := [200]) cx1 rfl rfl rfl (.inr (men_a3 rfl rfl rfl)) (by repeat (first | exact BxIn.nil | refine BxIn.cons rfl ?_)) rfl rfl rfl rfl rfl rfl rfl rfl rfl rfl ?_
      refine O.move rfl rfl ?_
      refine O.move rfl rfl ?_
      refine O.move rfl rfl ?_
      refine O.lend (ln := [200]) cx2 rfl rfl rfl (.inr (men_a3 rfl rfl rfl)) (by repeat (first | exact BxIn.nil | refine BxIn.cons rfl ?_)) rfl rfl rfl rfl rfl rfl rfl rfl rfl rfl ?_
      refine O.callE co rfl (by first | rfl | simp [closed, men3, mens2_app, mens2_ints, mens2, men2, men1, mens1_app, mens1_ints, mens1]) (by first | rfl | simp [d2, ds1_ints, ds1_app, ds1, d1, ds0_app, ds0_ints, ds0, d0]) rfl ?_
      refine O.store hE T28 rfl rfl rfl rfl rfl rfl ?_
      refine O.nil ?_
      try refine Run.keep [0,1,2,6,7,8,9,19,29,30,32,33,39,45,67,73,74,81,96,116,119] rfl rfl ?_
      refine Run.ret ?_
      exact ⟨_, _, ⟨.bi (15 + 2 - 1) x1 x2, m2, ⟨by omega, by omega, .bi (by unfold BiTy; omega) a3 b3, bi_dp a4 b4⟩, rfl, rfl⟩, Ends.of hE (.inr rfl) rfl rfl (SLe.drop (by repeat (first | exact TmIn.nil | refine TmIn.cons rfl ?_)) (by repeat (first | exact BxIn.nil | refine BxIn.cons rfl ?_)) rfl rfl)⟩
    ·
      obtain ⟨x1, m1, ⟨a1, a2, a3, a4⟩, cx1⟩ := sub hd2 (1 + z4) (by omega) (by omega)
      have co := (fnOp1 (g := g) (op := 17) x1).lent [200]
      repeat (first | refine Run.seq ?_ | refine Run.skip ?_ | refine Run.block ?_)
      refine Run.region ?_
      refine O.alloc hE 6 T28 rfl rfl rfl ?_
      refine O.nil ?_
      try refine Run.keep [0,1,2,6,7,8,9,19,29,30,32,33,39,45,67,73,74,81,96,116,119] rfl rfl ?_
      repeat (first | refine Run.seq ?_ | refine Run.skip ?_ | refine Run.block ?_)
      refine Run.region ?_
      refine O.move rfl rfl ?_
      refine O.lend (ln := [200]) cn rfl rfl rfl (.inr (men_a1 rfl)) (by repeat (first | exact BxIn.nil | refine BxIn.cons rfl ?_)) rfl rfl rfl rfl rfl rfl rfl rfl rfl rfl ?_
      refine O.alloc hE 7 T51 rfl rfl rfl ?_
      refine O.store hE T51 rfl rfl rfl rfl rfl rfl ?_
      refine O.nil ?_
      try refine Run.keep [0,1,2,6,7,8,9,19,29,30,32,33,39,45,67,73,74,81,96,116,119] rfl rfl ?_
      repeat (first | refine Run.seq ?_ | refine Run.skip ?_ | refine Run.block ?_)
      refine Run.region ?_
      refine O.move rfl rfl ?_
      first | refine O.cmp rfl rfl rfl (by first | exact dT (by omega) | exact dF (by omega)) rfl ?_ | refine O.cmp rfl rfl rfl rfl rfl ?_
      refine O.move rfl rfl ?_
      first | (refine O.yes rfl rfl (by trivial) ?_; refine O.field hE L51 rfl rfl rfl rfl ?_) | refine O.no rfl rfl rfl rfl ?_
      first | (refine O.yes rfl rfl (by trivial) ?_; first | refine O.loadS hE T3 rfl rfl rfl (by rfl) rfl ?_ | refine O.loadE hE T3 rfl rfl (by rfl) rfl ?_ | refine O.load hE T3 rfl rfl rfl rfl ?_) | refine O.no rfl rfl rfl rfl ?_
      first | (refine O.yes rfl rfl (by trivial) ?_; refine O.callE c5 rfl (by first | rfl | simp [closed, men3, mens2_app, mens2_ints, mens2, men2, men1, mens1_app, mens1_ints, mens1]) (by first | rfl | simp [d2, ds1_ints, ds1_app, ds1, d1, ds0_app, ds0_ints, ds0, d0]) rfl ?_) | refine O.no rfl rfl rfl rfl ?_
      first | (refine O.yes rfl rfl (by trivial) ?_; first | refine O.cmp rfl rfl rfl (by first | exact dT (by omega) | exact dF (by omega)) rfl ?_ | refine O.cmp rfl rfl rfl rfl rfl ?_) | refine O.no rfl rfl rfl rfl ?_
      refine O.pick rfl rfl rfl rfl rfl ?_
      refine O.nil ?_
      try refine Run.keep [0,1,2,6,7,8,9,19,29,30,32,33,39,45,67,73,74,81,96,116,119] rfl rfl ?_
      repeat (first | refine Run.seq ?_ | refine Run.skip ?_)
      first | refine Run.condT rfl rfl ?_ | refine Run.condF rfl rfl ?_ | refine Run.condT rfl (by assumption) ?_ | refine Run.condF rfl (by assumption) ?_
      repeat (first | refine Run.seq ?_ | refine Run.skip ?_ | refine Run.block ?_)
      refine Run.region ?_
      refine O.move rfl rfl ?_
      first | refine O.ar rfl rfl rfl (by exact wrap_i64 (by omega) (by omega)) rfl ?_ | refine O.ar rfl rfl rfl rfl rfl ?_
      refine O.assign rfl rfl ?_
      refine O.nil ?_
      try refine Run.keep [0,1,2,6,7,8,9,19,29,30,32,33,39,45,67,73,74,81,96,116,119] rfl rfl ?_
      repeat (first | refine Run.seq ?_ | refine Run.skip ?_ | refine Run.block ?_)
      refine Run.region ?_
      refine O.field hE L51 rfl rfl rfl rfl ?_
      first | refine O.loadS hE T3 rfl rfl rfl (by rfl) rfl ?_ | refine O.loadE hE T3 rfl rfl (by rfl) rfl ?_ | refine O.load hE T3 rfl rfl rfl rfl ?_
      refine O.callE c7 rfl (by first | rfl | simp [closed, men3, mens2_app, mens2_ints, mens2, men2, men1, mens1_app, mens1_ints, mens1]) (by first | rfl | simp [d2, ds1_ints, ds1_app, ds1, d1, ds0_app, ds0_ints, ds0, d0]) rfl ?_
      refine O.assign rfl rfl ?_
      refine O.nil ?_
      try refine Run.keep [0,1,2,6,7,8,9,19,29,30,32,33,39,45,67,73,74,81,96,116,119] rfl rfl ?_
      repeat (first | refine Run.seq ?_ | refine Run.skip ?_ | refine Run.block ?_)
      refine Run.region ?_
      refine O.move rfl rfl ?_
      refine O.nil ?_
      try refine Run.keep [0,1,2,6,7,8,9,19,29,30,32,33,39,45,67,73,74,81,96,116,119] rfl rfl ?_
      repeat (first | refine Run.seq ?_ | refine Run.skip ?_ | refine Run.block ?_)
      refine Run.region ?_
      first | refine O.cmp rfl rfl rfl (by first | exact dT (by omega) | exact dF (by omega)) rfl ?_ | refine O.cmp rfl rfl rfl rfl rfl ?_
      refine O.assign rfl rfl ?_
      refine O.nil ?_
      try refine Run.keep [0,1,2,6,7,8,9,19,29,30,32,33,39,45,67,73,74,81,96,116,119] rfl rfl ?_
      repeat (first | refine Run.seq ?_ | refine Run.skip ?_)
      first | refine Run.condT rfl rfl ?_ | refine Run.condF rfl rfl ?_ | refine Run.condT rfl (by assumption) ?_ | refine Run.condF rfl (by assumption) ?_
      repeat (first | refine Run.seq ?_ | refine Run.skip ?_ | refine Run.block ?_)
      refine Run.region ?_
      first | refine O.cmp rfl rfl rfl (by first | exact dT (by omega) | exact dF (by omega)) rfl ?_ | refine O.cmp rfl rfl rfl rfl rfl ?_
      refine O.assign rfl rfl ?_
      refine O.nil ?_
      try refine Run.keep [0,1,2,6,7,8,9,19,29,30,32,33,39,45,67,73,74,81,96,116,119] rfl rfl ?_
      repeat (first | refine Run.seq ?_ | refine Run.skip ?_)
      first | refine Run.condT rfl rfl ?_ | refine Run.condF rfl rfl ?_ | refine Run.condT rfl (by assumption) ?_ | refine Run.condF rfl (by assumption) ?_
      repeat (first | refine Run.seq ?_ | refine Run.skip ?_ | refine Run.block ?_)
      refine Run.region ?_
      refine O.field hE L51 rfl rfl rfl rfl ?_
      first | refine O.loadS hE T3 rfl rfl rfl (by rfl) rfl ?_ | refine O.loadE hE T3 rfl rfl (by rfl) rfl ?_ | refine O.load hE T3 rfl rfl rfl rfl ?_
      refine O.callE c4 rfl (by first | rfl | simp [closed, men3, mens2_app, mens2_ints, mens2, men2, men1, mens1_app, mens1_ints, mens1]) (by first | rfl | simp [d2, ds1_ints, ds1_app, ds1, d1, ds0_app, ds0_ints, ds0, d0]) rfl ?_
      first | refine O.ar rfl rfl rfl (by exact wrap_i64 (by omega) (by omega)) rfl ?_ | refine O.ar rfl rfl rfl rfl rfl ?_
      refine O.assign rfl rfl ?_
      refine O.nil ?_
      try refine Run.keep [0,1,2,6,7,8,9,19,29,30,32,33,39,45,67,73,74,81,96,116,119] rfl rfl ?_
      repeat (first | refine Run.seq ?_ | refine Run.skip ?_ | refine Run.block ?_)
      refine Run.region ?_
      refine O.move rfl rfl ?_
      refine O.nil ?_
      try refine Run.keep [0,1,2,6,7,8,9,19,29,30,32,33,39,45,67,73,74,81,96,116,119] rfl rfl ?_
      repeat (first | refine Run.seq ?_ | refine Run.skip ?_ | refine Run.block ?_)
      refine Run.region ?_
      first | refine O.cmp rfl rfl rfl (by first | exact dT (by omega) | exact dF (by omega)) rfl ?_ | refine O.cmp rfl rfl rfl rfl rfl ?_
      refine O.assign rfl rfl ?_
      refine O.nil ?_
      try refine Run.keep [0,1,2,6,7,8,9,19,29,30,32,33,39,45,67,73,74,81,96,116,119] rfl rfl ?_
      repeat (first | refine Run.seq ?_ | refine Run.skip ?_)
      first | refine Run.condT rfl rfl ?_ | refine Run.condF rfl rfl ?_ | refine Run.condT rfl (by assumption) ?_ | refine Run.condF rfl (by assumption) ?_
      repeat (first | refine Run.seq ?_ | refine Run.skip ?_ | refine Run.block ?_)
      refine Run.region ?_
      first | refine O.cmp rfl rfl rfl (by first | exact dT (by omega) | exact dF (by omega)) rfl ?_ | refine O.cmp rfl rfl rfl rfl rfl ?_
      refine O.assign rfl rfl ?_
      refine O.nil ?_
      try refine Run.keep [0,1,2,6,7,8,9,19,29,30,32,33,39,45,67,73,74,81,96,116,119] rfl rfl ?_
      repeat (first | refine Run.seq ?_ | refine Run.skip ?_)
      first | refine Run.condT rfl rfl ?_ | refine Run.condF rfl rfl ?_ | refine Run.condT rfl (by assumption) ?_ | refine Run.condF rfl (by assumption) ?_
      repeat (first | refine Run.seq ?_ | refine Run.skip ?_ | refine Run.block ?_)
      refine Run.region ?_
      first | refine O.cmp rfl rfl rfl (by first | exact dT (by omega) | exact dF (by omega)) rfl ?_ | refine O.cmp rfl rfl rfl rfl rfl ?_
      refine O.assign rfl rfl ?_
      refine O.nil ?_
      try refine Run.keep [0,1,2,6,7,8,9,19,29,30,32,33,39,45,67,73,74,81,96,116,119] rfl rfl ?_
      repeat (first | refine Run.seq ?_ | refine Run.skip ?_)
      first | refine Run.condT rfl rfl ?_ | refine Run.condF rfl rfl ?_ | refine Run.condT rfl (by assumption) ?_ | refine Run.condF rfl (by assumption) ?_
      repeat (first | refine Run.seq ?_ | refine Run.skip ?_ | refine Run.block ?_)
      refine Run.region ?_
      first | refine O.cmp rfl rfl rfl (by first | exact dT (by omega) | exact dF (by omega)) rfl ?_ | refine O.cmp rfl rfl rfl rfl rfl ?_
      refine O.assign rfl rfl ?_
      refine O.nil ?_
      try refine Run.keep [0,1,2,6,7,8,9,19,29,30,32,33,39,45,67,73,74,81,96,116,119] rfl rfl ?_
      repeat (first | refine Run.seq ?_ | refine Run.skip ?_)
      first | refine Run.condT rfl rfl ?_ | refine Run.condF rfl rfl ?_ | refine Run.condT rfl (by assumption) ?_ | refine Run.condF rfl (by assumption) ?_
      repeat (first | refine Run.seq ?_ | refine Run.skip ?_ | refine Run.block ?_)
      refine Run.region ?_
      refine O.move rfl rfl ?_
      refine O.move rfl rfl ?_
      refine O.move rfl rfl ?_
      refine O.lend (ln := [200]) cx1 rfl rfl rfl (.inr (men_a3 rfl rfl rfl)) (by repeat (first | exact BxIn.nil | refine BxIn.cons rfl ?_)) rfl rfl rfl rfl rfl rfl rfl rfl rfl rfl ?_
      refine O.callE co rfl (by first | rfl | simp [closed, men3, mens2_app, mens2_ints, mens2, men2, men1, mens1_app, mens1_ints, mens1]) (by first | rfl | simp [d2, ds1_ints, ds1_app, ds1, d1, ds0_app, ds0_ints, ds0, d0]) rfl ?_
      refine O.store hE T28 rfl rfl rfl rfl rfl rfl ?_
      refine O.nil ?_
      try refine Run.keep [0,1,2,6,7,8,9,19,29,30,32,33,39,45,67,73,74,81,96,116,119] rfl rfl ?_
      refine Run.ret ?_
      exact ⟨_, _, ⟨.un 17 x1, m1, ⟨by omega, by omega, .un (by unfold UnTy; omega) a3, un_dp a4⟩, rfl, rfl⟩, Ends.of hE (.inr rfl) rfl rfl (SLe.drop (by repeat (first | exact TmIn.nil | refine TmIn.cons rfl ?_)) (by repeat (first | exact BxIn.nil | refine BxIn.cons rfl ?_)) rfl rfl)⟩
    ·
      obtain ⟨x1, m1, ⟨a1, a2, a3, a4⟩, cx1⟩ := sub hd2 (1 + z4) (by omega) (by omega)
      obtain ⟨x2, m2, ⟨b1, b2, b3, b4⟩, cx2⟩ := sub2 hd2 (1 + z4) (by omega) (by omega) m1 (by omega) (by omega)
      have co := (fnOp2 (g := g) (op := 9 + z6) x1 x2).lent [200]
      repeat (first | refine Run.seq ?_ | refine Run.skip ?_ | refine Run.block ?_)
      refine Run.region ?_
      refine O.alloc hE 6 T28 rfl rfl rfl ?_
      refine O.nil ?_
      try refine Run.keep [0,1,2,6,7,8,9,19,29,30,32,33,39,45,67,73,74,81,96,116,119] rfl rfl ?_
      repeat (first | refine Run.seq ?_ | refine Run.skip ?_ | refine Run.block ?_)
      refine Run.region ?_
      refine O.move rfl rfl ?_
      refine O.lend (ln := [200]) cn rfl rfl rfl (.inr (men_a1 rfl)) (by repeat (first | exact BxIn.nil | refine BxIn.cons rfl ?_)) rfl rfl rfl rfl rfl rfl rfl rfl rfl rfl ?_
      refine O.alloc hE 7 T51 rfl rfl rfl ?_
      refine O.store hE T51 rfl rfl rfl rfl rfl rfl ?_
      refine O.nil ?_
      try refine Run.keep [0,1,2,6,7,8,9,19,29,30,32,33,39,45,67,73,74,81,96,116,119] rfl rfl ?_
      repeat (first | refine Run.seq ?_ | refine Run.skip ?_ | refine Run.block ?_)
      refine Run.region ?_
      refine O.move rfl rfl ?_
      first | refine O.cmp rfl rfl rfl (by first | exact dT (by omega) | exact dF (by omega)) rfl ?_ | refine O.cmp rfl rfl rfl rfl rfl ?_
      refine O.move rfl rfl ?_
      first | (refine O.yes rfl rfl (by trivial) ?_; refine O.field hE L51 rfl rfl rfl rfl ?_) | refine O.no rfl rfl rfl rfl ?_
      first | (refine O.yes rfl rfl (by trivial) ?_; first | refine O.loadS hE T3 rfl rfl rfl (by rfl) rfl ?_ | refine O.loadE hE T3 rfl rfl (by rfl) rfl ?_ | refine O.load hE T3 rfl rfl rfl rfl ?_) | refine O.no rfl rfl rfl rfl ?_
      first | (refine O.yes rfl rfl (by trivial) ?_; refine O.callE c5 rfl (by first | rfl | simp [closed, men3, mens2_app, mens2_ints, mens2, men2, men1, mens1_app, mens1_ints, mens1]) (by first | rfl | simp [d2, ds1_ints, ds1_app, ds1, d1, ds0_app, ds0_ints, ds0, d0]) rfl ?_) | refine O.no rfl rfl rfl rfl ?_
      first | (refine O.yes rfl rfl (by trivial) ?_; first | refine O.cmp rfl rfl rfl (by first | exact dT (by omega) | exact dF (by omega)) rfl ?_ | refine O.cmp rfl rfl rfl rfl rfl ?_) | refine O.no rfl rfl rfl rfl ?_
      refine O.pick rfl rfl rfl rfl rfl ?_
      refine O.nil ?_
      try refine Run.keep [0,1,2,6,7,8,9,19,29,30,32,33,39,45,67,73,74,81,96,116,119] rfl rfl ?_
      repeat (first | refine Run.seq ?_ | refine Run.skip ?_)
      first | refine Run.condT rfl rfl ?_ | refine Run.condF rfl rfl ?_ | refine Run.condT rfl (by assumption) ?_ | refine Run.condF rfl (by assumption) ?_
      repeat (first | refine Run.seq ?_ | refine Run.skip ?_ | refine Run.block ?_)
      refine Run.region ?_
      refine O.move rfl rfl ?_
      first | refine O.ar rfl rfl rfl (by exact wrap_i64 (by omega) (by omega)) rfl ?_ | refine O.ar rfl rfl rfl rfl rfl ?_
      refine O.assign rfl rfl ?_
      refine O.nil ?_
      try refine Run.keep [0,1,2,6,7,8,9,19,29,30,32,33,39,45,67,73,74,81,96,116,119] rfl rfl ?_
      repeat (first | refine Run.seq ?_ | refine Run.skip ?_ | refine Run.block ?_)
      refine Run.region ?_
      refine O.field hE L51 rfl rfl rfl rfl ?_
      first | refine O.loadS hE T3 rfl rfl rfl (by rfl) rfl ?_ | refine O.loadE hE T3 rfl rfl (by rfl) rfl ?_ | refine O.load hE T3 rfl rfl rfl rfl ?_
      refine O.callE c7 rfl (by first | rfl | simp [closed, men3, mens2_app, mens2_ints, mens2, men2, men1, mens1_app, mens1_ints, mens1]) (by first | rfl | simp [d2, ds1_ints, ds1_app, ds1, d1, ds0_app, ds0_ints, ds0, d0]) rfl ?_
      refine O.assign rfl rfl ?_
      refine O.nil ?_
      try refine Run.keep [0,1,2,6,7,8,9,19,29,30,32,33,39,45,67,73,74,81,96,116,119] rfl rfl ?_
      repeat (first | refine Run.seq ?_ | refine Run.skip ?_ | refine Run.block ?_)
      refine Run.region ?_
      refine O.move rfl rfl ?_
      refine O.nil ?_
      try refine Run.keep [0,1,2,6,7,8,9,19,29,30,32,33,39,45,67,73,74,81,96,116,119] rfl rfl ?_
      repeat (first | refine Run.seq ?_ | refine Run.skip ?_ | refine Run.block ?_)
      refine Run.region ?_
      first | refine O.cmp rfl rfl rfl (by first | exact dT (by omega) | exact dF (by omega)) rfl ?_ | refine O.cmp rfl rfl rfl rfl rfl ?_
      refine O.assign rfl rfl ?_
      refine O.nil ?_
      try refine Run.keep [0,1,2,6,7,8,9,19,29,30,32,33,39,45,67,73,74,81,96,116,119] rfl rfl ?_
      repeat (first | refine Run.seq ?_ | refine Run.skip ?_)
      first | refine Run.condT rfl rfl ?_ | refine Run.condF rfl rfl ?_ | refine Run.condT rfl (by assumption) ?_ | refine Run.condF rfl (by assumption) ?_
      repeat (first | refine Run.seq ?_ | refine Run.skip ?_ | refine Run.block ?_)
      refine Run.region ?_
      first | refine O.cmp rfl rfl rfl (by first | exact dT (by omega) | exact dF (by omega)) rfl ?_ | refine O.cmp rfl rfl rfl rfl rfl ?_
      refine O.assign rfl rfl ?_
      refine O.nil ?_
      try refine Run.keep [0,1,2,6,7,8,9,19,29,30,32,33,39,45,67,73,74,81,96,116,119] rfl rfl ?_
      repeat (first | refine Run.seq ?_ | refine Run.skip ?_)
      first | refine Run.condT rfl rfl ?_ | refine Run.condF rfl rfl ?_ | refine Run.condT rfl (by assumption) ?_ | refine Run.condF rfl (by assumption) ?_
      repeat (first | refine Run.seq ?_ | refine Run.skip ?_ | refine Run.block ?_)
      refine Run.region ?_
      refine O.field hE L51 rfl rfl rfl rfl ?_
      first | refine O.loadS hE T3 rfl rfl rfl (by rfl) rfl ?_ | refine O.loadE hE T3 rfl rfl (by rfl) rfl ?_ | refine O.load hE T3 rfl rfl rfl rfl ?_
      refine O.callE c4 rfl (by first | rfl | simp [closed, men3, mens2_app, mens2_ints, mens2, men2, men1, mens1_app, mens1_ints, mens1]) (by first | rfl | simp [d2, ds1_ints, ds1_app, ds1, d1, ds0_app, ds0_ints, ds0, d0]) rfl ?_
      first | refine O.ar rfl rfl rfl (by exact wrap_i64 (by omega) (by omega)) rfl ?_ | refine O.ar rfl rfl rfl rfl rfl ?_
      refine O.assign rfl rfl ?_
      refine O.nil ?_
      try refine Run.keep [0,1,2,6,7,8,9,19,29,30,32,33,39,45,67,73,74,81,96,116,119] rfl rfl ?_
      repeat (first | refine Run.seq ?_ | refine Run.skip ?_ | refine Run.block ?_)
      refine Run.region ?_
      refine O.move rfl rfl ?_
      refine O.nil ?_
      try refine Run.keep [0,1,2,6,7,8,9,19,29,30,32,33,39,45,67,73,74,81,96,116,119] rfl rfl ?_
      repeat (first | refine Run.seq ?_ | refine Run.skip ?_ | refine Run.block ?_)
      refine Run.region ?_
      first | refine O.cmp rfl rfl rfl (by first | exact dT (by omega) | exact dF (by omega)) rfl ?_ | refine O.cmp rfl rfl rfl rfl rfl ?_
      refine O.assign rfl rfl ?_
      refine O.nil ?_
      try refine Run.keep [0,1,2,6,7,8,9,19,29,30,32,33,39,45,67,73,74,81,96,116,119] rfl rfl ?_
      repeat (first | refine Run.seq ?_ | refine Run.skip ?_)
      first | refine Run.condT rfl rfl ?_ | refine Run.condF rfl rfl ?_ | refine Run.condT rfl (by assumption) ?_ | refine Run.condF rfl (by assumption) ?_
      repeat (first | refine Run.seq ?_ | refine Run.skip ?_ | refine Run.block ?_)
      refine Run.region ?_
      first | refine O.cmp rfl rfl rfl (by first | exact dT (by omega) | exact dF (by omega)) rfl ?_ | refine O.cmp rfl rfl rfl rfl rfl ?_
      refine O.assign rfl rfl ?_
      refine O.nil ?_
      try refine Run.keep [0,1,2,6,7,8,9,19,29,30,32,33,39,45,67,73,74,81,96,116,119] rfl rfl ?_
      repeat (first | refine Run.seq ?_ | refine Run.skip ?_)
      first | refine Run.condT rfl rfl ?_ | refine Run.condF rfl rfl ?_ | refine Run.condT rfl (by assumption) ?_ | refine Run.condF rfl (by assumption) ?_
      repeat (first | refine Run.seq ?_ | refine Run.skip ?_ | refine Run.block ?_)
      refine Run.region ?_
      first | refine O.cmp rfl rfl rfl (by first | exact dT (by omega) | exact dF (by omega)) rfl ?_ | refine O.cmp rfl rfl rfl rfl rfl ?_
      refine O.assign rfl rfl ?_
      refine O.nil ?_
      try refine Run.keep [0,1,2,6,7,8,9,19,29,30,32,33,39,45,67,73,74,81,96,116,119] rfl rfl ?_
      repeat (first | refine Run.seq ?_ | refine Run.skip ?_)
      first | refine Run.condT rfl rfl ?_ | refine Run.condF rfl rfl ?_ | refine Run.condT rfl (by assumption) ?_ | refine Run.condF rfl (by assumption) ?_
      repeat (first | refine Run.seq ?_ | refine Run.skip ?_ | refine Run.block ?_)
      refine Run.region ?_
      first | refine O.cmp rfl rfl rfl (by first | exact dT (by omega) | exact dF (by omega)) rfl ?_ | refine O.cmp rfl rfl rfl rfl rfl ?_
      refine O.assign rfl rfl ?_
      refine O.nil ?_
      try refine Run.keep [0,1,2,6,7,8,9,19,29,30,32,33,39,45,67,73,74,81,96,116,119] rfl rfl ?_
      repeat (first | refine Run.seq ?_ | refine Run.skip ?_)
      first | refine Run.condT rfl rfl ?_ | refine Run.condF rfl rfl ?_ | refine Run.condT rfl (by assumption) ?_ | refine Run.condF rfl (by assumption) ?_
      repeat (first | refine Run.seq ?_ | refine Run.skip ?_ | refine Run.block ?_)
      refine Run.region ?_
      refine O.field hE L51 rfl rfl rfl rfl ?_
      first | refine O.loadS hE T3 rfl rfl rfl (by rfl) rfl ?_ | refine O.loadE hE T3 rfl rfl (by rfl) rfl ?_ | refine O.load hE T3 rfl rfl rfl rfl ?_
      refine O.callE c6 rfl (by first | rfl | simp [closed, men3, mens2_app, mens2_ints, mens2, men2, men1, mens1_app, mens1_ints, mens1]) (by first | rfl | simp [d2, ds1_ints, ds1_app, ds1, d1, ds0_app, ds0_ints, ds0, d0]) rfl ?_
      first | refine O.ar rfl rfl rfl (by exact wrap_i64 (by omega) (by omega)) rfl ?_ | refine O.ar rfl rfl rfl rfl rfl ?_
      refine O.move rfl rfl ?_
      refine O.move rfl rfl ?_
      refine O.move rfl rfl ?_
      refine O.lend (ln := [200]) cx1 rfl rfl rfl (.inr (men_a3 rfl rfl rfl)) (by repeat (first | exact BxIn.nil | refine BxIn.cons rfl ?_)) rfl rfl rfl rfl rfl rfl rfl rfl rfl rfl ?_
      refine O.move rfl rfl ?_
      refine O.move rfl rfl ?_
      refine O.move rfl rfl ?_
      refine O.lend (ln := [200]) cx2 rfl rfl rfl (.inr (men_a3 rfl rfl rfl)) (by repeat (first | exact BxIn.nil | refine BxIn.cons rfl ?_)) rfl rfl rfl rfl rfl rfl rfl rfl rfl rfl ?_
      refine O.callE co rfl (by first | rfl | simp [closed, men3, mens2_app, mens2_ints, mens2, men2, men1, mens1_app, mens1_ints, mens1]) (by first | rfl | simp [d2, ds1_ints, ds1_app, ds1, d1, ds0_app, ds0_ints, ds0, d0]) rfl ?_
      refine O.store hE T28 rfl rfl rfl rfl rfl rfl ?_
      refine O.nil ?_
      try refine Run.keep [0,1,2,6,7,8,9,19,29,30,32,33,39,45,67,73,74,81,96,116,119] rfl rfl ?_
      refine Run.ret ?_
      exact ⟨_, _, ⟨.bi (9 + z6) x1 x2, m2, ⟨by omega, by omega, .bi (by unfold BiTy; omega) a3 b3, bi_dp a4 b4⟩, rfl, rfl⟩, Ends.of hE (.inr rfl) rfl rfl (SLe.drop (by repeat (first | exact TmIn.nil | refine TmIn.cons rfl ?_)) (by repeat (first | exact BxIn.nil | refine BxIn.cons rfl ?_)) rfl rfl)⟩
  ·
    have hz : z7 = 4 ∨ z7 = 5 ∨ z7 = 6 ∨ z7 ≤ 3 := by omega
    rcases hz with rfl | rfl | rfl | hz
    ·
      obtain ⟨x1, m1, ⟨a1, a2, a3, a4⟩, cx1⟩ := sub hd2 2 (by omega) (by omega)
      have co := (fnOp1 (g := g) (op := 3) x1).lent [200]
      repeat (first | refine Run.seq ?_ | refine Run.skip ?_ | refine Run.block ?_)
      refine Run.region ?_
      refine O.alloc hE 6 T28 rfl rfl rfl ?_
      refine O.nil ?_
      try refine Run.keep [0,1,2,6,7,8,9,19,29,30,32,33,39,45,67,73,74,81,96,116,119] rfl rfl ?_
      repeat (first | refine Run.seq ?_ | refine Run.skip ?_ | refine Run.block ?_)
      refine Run.region ?_
      refine O.move rfl rfl ?_
      refine O.lend (ln := [200]) cn rfl rfl rfl (.inr (men_a1 rfl)) (by repeat (first | exact BxIn.nil | refine BxIn.cons rfl ?_)) rfl rfl rfl rfl rfl rfl rfl rfl rfl rfl ?_
      refine O.alloc hE 7 T51 rfl rfl rfl ?_
      refine O.store hE T51 rfl rfl rfl rfl rfl rfl ?_
      refine O.nil ?_
      try refine Run.keep [0,1,2,6,7,8,9,19,29,30,32,33,39,45,67,73,74,81,96,116,119] rfl rfl ?_
      repeat (first | refine Run.seq ?_ | refine Run.skip ?_ | refine Run.block ?_)
      refine Run.region ?_
      refine O.move rfl rfl ?_
      first | refine O.cmp rfl rfl rfl (by first | exact dT (by omega) | exact dF (by omega)) rfl ?_ | refine O.cmp rfl rfl rfl rfl rfl ?_
      refine O.move rfl rfl ?_
      first | (refine O.yes rfl rfl (by trivial) ?_; refine O.field hE L51 rfl rfl rfl rfl ?_) | refine O.no rfl rfl rfl rfl ?_
      first | (refine O.yes rfl rfl (by trivial) ?_; first | refine O.loadS hE T3 rfl rfl rfl (by rfl) rfl ?_ | refine O.loadE hE T3 rfl rfl (by rfl) rfl ?_ | refine O.load hE T3 rfl rfl rfl rfl ?_) | refine O.no rfl rfl rfl rfl ?_
      first | (refine O.yes rfl rfl (by trivial) ?_; refine O.callE c5 rfl (by first | rfl | simp [closed, men3, mens2_app, mens2_ints, mens2, men2, men1, mens1_app, mens1_ints, mens1]) (by first | rfl | simp [d2, ds1_ints, ds1_app, ds1, d1, ds0_app, ds0_ints, ds0, d0]) rfl ?_) | refine O.no rfl rfl rfl rfl ?_
      first | (refine O.yes rfl rfl (by trivial) ?_; first | refine O.cmp rfl rfl rfl (by first | exact dT (by omega) | exact dF (by omega)) rfl ?_ | refine O.cmp rfl rfl rfl rfl rfl ?_) | refine O.no rfl rfl rfl rfl ?_
      refine O.pick rfl rfl rfl rfl rfl ?_
      refine O.nil ?_
      try refine Run.keep [0,1,2,6,7,8,9,19,29,30,32,33,39,45,67,73,74,81,96,116,119] rfl rfl ?_
      repeat (first | refine Run.seq ?_ | refine Run.skip ?_)
      first | refine Run.condT rfl rfl ?_ | refine Run.condF rfl rfl ?_ | refine Run.condT rfl (by assumption) ?_ | refine Run.condF rfl (by assumption) ?_
      repeat (first | refine Run.seq ?_ | refine Run.skip ?_ | refine Run.block ?_)
      refine Run.region ?_
      refine O.move rfl rfl ?_
      first | refine O.ar rfl rfl rfl (by exact wrap_i64 (by omega) (by omega)) rfl ?_ | refine O.ar rfl rfl rfl rfl rfl ?_
      refine O.assign rfl rfl ?_
      refine O.nil ?_
      try refine Run.keep [0,1,2,6,7,8,9,19,29,30,32,33,39,45,67,73,74,81,96,116,119] rfl rfl ?_
      repeat (first | refine Run.seq ?_ | refine Run.skip ?_ | refine Run.block ?_)
      refine Run.region ?_
      refine O.field hE L51 rfl rfl rfl rfl ?_
      first | refine O.loadS hE T3 rfl rfl rfl (by rfl) rfl ?_ | refine O.loadE hE T3 rfl rfl (by rfl) rfl ?_ | refine O.load hE T3 rfl rfl rfl rfl ?_
      refine O.callE c7 rfl (by first | rfl | simp [closed, men3, mens2_app, mens2_ints, mens2, men2, men1, mens1_app, mens1_ints, mens1]) (by first | rfl | simp [d2, ds1_ints, ds1_app, ds1, d1, ds0_app, ds0_ints, ds0, d0]) rfl ?_
      refine O.assign rfl rfl ?_
      refine O.nil ?_
      try refine Run.keep [0,1,2,6,7,8,9,19,29,30,32,33,39,45,67,73,74,81,96,116,119] rfl rfl ?_
      repeat (first | refine Run.seq ?_ | refine Run.skip ?_ | refine Run.block ?_)
      refine Run.region ?_
      refine O.move rfl rfl ?_
      refine O.nil ?_
      try refine Run.keep [0,1,2,6,7,8,9,19,29,30,32,33,39,45,67,73,74,81,96,116,119] rfl rfl ?_
      repeat (first | refine Run.seq ?_ | refine Run.skip ?_ | refine Run.block ?_)
      refine Run.region ?_
      first | refine O.cmp rfl rfl rfl (by first | exact dT (by omega) | exact dF (by omega)) rfl ?_ | refine O.cmp rfl rfl rfl rfl rfl ?_
      refine O.assign rfl rfl ?_
      refine O.nil ?_
      try refine Run.keep [0,1,2,6,7,8,9,19,29,30,32,33,39,45,67,73,74,81,96,116,119] rfl rfl ?_
      repeat (first | refine Run.seq ?_ | refine Run.skip ?_)
      first | refine Run.condT rfl rfl ?_ | refine Run.condF rfl rfl ?_ | refine Run.condT rfl (by assumption) ?_ | refine Run.condF rfl (by assumption) ?_
      repeat (first | refine Run.seq ?_ | refine Run.skip ?_ | refine Run.block ?_)
      refine Run.region ?_
      refine O.move rfl rfl ?_
      refine O.nil ?_
      try refine Run.keep [0,1,2,6,7,8,9,19,29,30,32,33,39,45,67,73,74,81,96,116,119] rfl rfl ?_
      repeat (first | refine Run.seq ?_ | refine Run.skip ?_ | refine Run.block ?_)
      refine Run.region ?_
      first | refine O.cmp rfl rfl rfl (by first | exact dT (by omega) | exact dF (by omega)) rfl ?_ | refine O.cmp rfl rfl rfl rfl rfl ?_
      refine O.assign rfl rfl ?_
      refine O.nil ?_
      try refine Run.keep [0,1,2,6,7,8,9,19,29,30,32,33,39,45,67,73,74,81,96,116,119] rfl rfl ?_
      repeat (first | refine Run.seq ?_ | refine Run.skip ?_)
      first | refine Run.condT rfl rfl ?_ | refine Run.condF rfl rfl ?_ | refine Run.condT rfl (by assumption) ?_ | refine Run.condF rfl (by assumption) ?_
      repeat (first | refine Run.seq ?_ | refine Run.skip ?_ | refine Run.block ?_)
      refine Run.region ?_
      refine O.move rfl rfl ?_
      refine O.move rfl rfl ?_
      refine O.lend (ln := [200]) cx1 rfl rfl rfl (.inr (men_a3 rfl rfl rfl)) (by repeat (first | exact BxIn.nil | refine BxIn.cons rfl ?_)) rfl rfl rfl rfl rfl rfl rfl rfl rfl rfl ?_
      refine O.callE co rfl (by first | rfl | simp [closed, men3, mens2_app, mens2_ints, mens2, men2, men1, mens1_app, mens1_ints, mens1]) (by first | rfl | simp [d2, ds1_ints, ds1_app, ds1, d1, ds0_app, ds0_ints, ds0, d0]) rfl ?_
      refine O.store hE T28 rfl rfl rfl rfl rfl rfl ?_
      refine O.nil ?_
      try refine Run.keep [0,1,2,6,7,8,9,19,29,30,32,33,39,45,67,73,74,81,96,116,119] rfl rfl ?_
      refine Run.ret ?_
      exact ⟨_, _, ⟨.un 3 x1, m1, ⟨by omega, by omega, .un (by unfold UnTy; omega) a3, un_dp a4⟩, rfl, rfl⟩, Ends.of hE (.inr rfl) rfl rfl (SLe.drop (by repeat (first | exact TmIn.nil | refine TmIn.cons rfl ?_)) (by repeat (first | exact BxIn.nil | refine BxIn.cons rfl ?_)) rfl rfl)⟩
    ·
      obtain ⟨x1, m1, ⟨a1, a2, a3, a4⟩, cx1⟩ := sub hd2 4 (by omega) (by omega)
      have co := (fnOp1 (g := g) (op := 18) x1).lent [200]
      repeat (first | refine Run.seq ?_ | refine Run.skip ?_ | refine Run.block ?_)
      refine Run.region ?_
      refine O.alloc hE 6 T28 rfl rfl rfl ?_
      refine O.nil ?_
      try refine Run.keep [0,1,2,6,7,8,9,19,29,30,32,33,39,45,67,73,74,81,96,116,119] rfl rfl ?_
      repeat (first | refine Run.seq ?_ | refine Run.skip ?_ | refine Run.block ?_)
      refine Run.region ?_
      refine O.move rfl rfl ?_
      refine O.lend (ln := [200]) cn rfl rfl rfl (.inr (men_a1 rfl)) (by repeat (first | exact BxIn.nil | refine BxIn.cons rfl ?_)) rfl rfl rfl rfl rfl rfl rfl rfl rfl rfl ?_
      refine O.alloc hE 7 T51 rfl rfl rfl ?_
      refine O.store hE T51 rfl rfl rfl rfl rfl rfl ?_
      refine O.nil ?_
      try refine Run.keep [0,1,2,6,7,8,9,19,29,30,32,33,39,45,67,73,74,81,96,116,119] rfl rfl ?_
      repeat (first | refine Run.seq ?_ | refine Run.skip ?_ | refine Run.block ?_)
      refine Run.region ?_
      refine O.move rfl rfl ?_
      first | refine O.cmp rfl rfl rfl (by first | exact dT (by omega) | exact dF (by omega)) rfl ?_ | refine O.cmp rfl rfl rfl rfl rfl ?_
      refine O.move rfl rfl ?_
      first | (refine O.yes rfl rfl (by trivial) ?_; refine O.field hE L51 rfl rfl rfl rfl ?_) | refine O.no rfl rfl rfl rfl ?_
      first | (refine O.yes rfl rfl (by trivial) ?_; first | refine O.loadS hE T3 rfl rfl rfl (by rfl) rfl ?_ | refine O.loadE hE T3 rfl rfl (by rfl) rfl ?_ | refine O.load hE T3 rfl rfl rfl rfl ?_) | refine O.no rfl rfl rfl rfl ?_
      first | (refine O.yes rfl rfl (by trivial) ?_; refine O.callE c5 rfl (by first | rfl | simp [closed, men3, mens2_app, mens2_ints, mens2, men2, men1, mens1_app, mens1_ints, mens1]) (by first | rfl | simp [d2, ds1_ints, ds1_app, ds1, d1, ds0_app, ds0_ints, ds0, d0]) rfl ?_) | refine O.no rfl rfl rfl rfl ?_
      first | (refine O.yes rfl rfl (by trivial) ?_; first | refine O.cmp rfl rfl rfl (by first | exact dT (by omega) | exact dF (by omega)) rfl ?_ | refine O.cmp rfl rfl rfl rfl rfl ?_) | refine O.no rfl rfl rfl rfl ?_
      refine O.pick rfl rfl rfl rfl rfl ?_
      refine O.nil ?_
      try refine Run.keep [0,1,2,6,7,8,9,19,29,30,32,33,39,45,67,73,74,81,96,116,119] rfl rfl ?_
      repeat (first | refine Run.seq ?_ | refine Run.skip ?_)
      first | refine Run.condT rfl rfl ?_ | refine Run.condF rfl rfl ?_ | refine Run.condT rfl (by assumption) ?_ | refine Run.condF rfl (by assumption) ?_
      repeat (first | refine Run.seq ?_ | refine Run.skip ?_ | refine Run.block ?_)
      refine Run.region ?_
      refine O.move rfl rfl ?_
      first | refine O.ar rfl rfl rfl (by exact wrap_i64 (by omega) (by omega)) rfl ?_ | refine O.ar rfl rfl rfl rfl rfl ?_
      refine O.assign rfl rfl ?_
      refine O.nil ?_
      try refine Run.keep [0,1,2,6,7,8,9,19,29,30,32,33,39,45,67,73,74,81,96,116,119] rfl rfl ?_
      repeat (first | refine Run.seq ?_ | refine Run.skip ?_ | refine Run.block ?_)
      refine Run.region ?_
      refine O.field hE L51 rfl rfl rfl rfl ?_
      first | refine O.loadS hE T3 rfl rfl rfl (by rfl) rfl ?_ | refine O.loadE hE T3 rfl rfl (by rfl) rfl ?_ | refine O.load hE T3 rfl rfl rfl rfl ?_
      refine O.callE c7 rfl (by first | rfl | simp [closed, men3, mens2_app, mens2_ints, mens2, men2, men1, mens1_app, mens1_ints, mens1]) (by first | rfl | simp [d2, ds1_ints, ds1_app, ds1, d1, ds0_app, ds0_ints, ds0, d0]) rfl ?_
      refine O.assign rfl rfl ?_
      refine O.nil ?_
      try refine Run.keep [0,1,2,6,7,8,9,19,29,30,32,33,39,45,67,73,74,81,96,116,119] rfl rfl ?_
      repeat (first | refine Run.seq ?_ | refine Run.skip ?_ | refine Run.block ?_)
      refine Run.region ?_
      refine O.move rfl rfl ?_
      refine O.nil ?_
      try refine Run.keep [0,1,2,6,7,8,9,19,29,30,32,33,39,45,67,73,74,81,96,116,119] rfl rfl ?_
      repeat (first | refine Run.seq ?_ | refine Run.skip ?_ | refine Run.block ?_)
      refine Run.region ?_
      first | refine O.cmp rfl rfl rfl (by first | exact dT (by omega) | exact dF (by omega)) rfl ?_ | refine O.cmp rfl rfl rfl rfl rfl ?_
      refine O.assign rfl rfl ?_
      refine O.nil ?_
      try refine Run.keep [0,1,2,6,7,8,9,19,29,30,32,33,39,45,67,73,74,81,96,116,119] rfl rfl ?_
      repeat (first | refine Run.seq ?_ | refine Run.skip ?_)
      first | refine Run.condT rfl rfl ?_ | refine Run.condF rfl rfl ?_ | refine Run.condT rfl (by assumption) ?_ | refine Run.condF rfl (by assumption) ?_
      repeat (first | refine Run.seq ?_ | refine Run.skip ?_ | refine Run.block ?_)
      refine Run.region ?_
      refine O.move rfl rfl ?_
      refine O.nil ?_
      try refine Run.keep [0,1,2,6,7,8,9,19,29,30,32,33,39,45,67,73,74,81,96,116,119] rfl rfl ?_
      repeat (first | refine Run.seq ?_ | refine Run.skip ?_ | refine Run.block ?_)
      refine Run.region ?_
      first | refine O.cmp rfl rfl rfl (by first | exact dT (by omega) | exact dF (by omega)) rfl ?_ | refine O.cmp rfl rfl rfl rfl rfl ?_
      refine O.assign rfl rfl ?_
      refine O.nil ?_
      try refine Run.keep [0,1,2,6,7,8,9,19,29,30,32,33,39,45,67,73,74,81,96,116,119] rfl rfl ?_
      repeat (first | refine Run.seq ?_ | refine Run.skip ?_)
      first | refine Run.condT rfl rfl ?_ | refine Run.condF rfl rfl ?_ | refine Run.condT rfl (by assumption) ?_ | refine Run.condF rfl (by assumption) ?_
      repeat (first | refine Run.seq ?_ | refine Run.skip ?_ | refine Run.block ?_)
      refine Run.region ?_
      first | refine O.cmp rfl rfl rfl (by first | exact dT (by omega) | exact dF (by omega)) rfl ?_ | refine O.cmp rfl rfl rfl rfl rfl ?_
      refine O.assign rfl rfl ?_
      refine O.nil ?_
      try refine Run.keep [0,1,2,6,7,8,9,19,29,30,32,33,39,45,67,73,74,81,96,116,119] rfl rfl ?_
      repeat (first | refine Run.seq ?_ | refine Run.skip ?_)
      first | refine Run.condT rfl rfl ?_ | refine Run.condF rfl rfl ?_ | refine Run.condT rfl (by assumption) ?_ | refine Run.condF rfl (by assumption) ?_
      repeat (first | refine Run.seq ?_ | refine Run.skip ?_ | refine Run.block ?_)
      refine Run.region ?_
      refine O.move rfl rfl ?_
      refine O.move rfl rfl ?_
      refine O.lend (ln := [200]) cx1 rfl rfl rfl (.inr (men_a3 rfl rfl rfl)) (by repeat (first | exact BxIn.nil | refine BxIn.cons rfl ?_)) rfl rfl rfl rfl rfl rfl rfl rfl rfl rfl ?_
      refine O.callE co rfl (by first | rfl | simp [closed, men3, mens2_app, mens2_ints, mens2, men2, men1, mens1_app, mens1_ints, mens1]) (by first | rfl | simp [d2, ds1_ints, ds1_app, ds1, d1, ds0_app, ds0_ints, ds0, d0]) rfl ?_
      refine O.store hE T28 rfl rfl rfl rfl rfl rfl ?_
      refine O.nil ?_
      try refine Run.keep [0,1,2,6,7,8,9,19,29,30,32,33,39,45,67,73,74,81,96,116,119] rfl rfl ?_
      refine Run.ret ?_
      exact ⟨_, _, ⟨.un 18 x1, m1, ⟨by omega, by omega, .un (by unfold UnTy; omega) a3, un_dp a4⟩, rfl, rfl⟩, Ends.of hE (.inr rfl) rfl rfl (SLe.drop (by repeat (first | exact TmIn.nil | refine TmIn.cons rfl ?_)) (by repeat (first | exact BxIn.nil | refine BxIn.cons rfl ?_)) rfl rfl)⟩
    ·
      obtain ⟨x1, m1, ⟨a1, a2, a3, a4⟩, cx1⟩ := sub hd2 2 (by omega) (by omega)
      obtain ⟨x2, m2, ⟨b1, b2, b3, b4⟩, cx2⟩ := sub2 hd2 2 (by omega) (by omega) m1 (by omega) (by omega)
      have co := (fnOp2 (g := g) (op := 20) x1 x2).lent [200]
      repeat (first | refine Run.seq ?_ | refine Run.skip ?_ | refine Run.block ?_)
      refine Run.region ?_
      refine O.alloc hE 6 T28 rfl rfl rfl ?_
      refine O.nil ?_
      try refine Run.keep [0,1,2,6,7,8,9,19,29,30,32,33,39,45,67,73,74,81,96,116,119] rfl rfl ?_
      repeat (first | refine Run.seq ?_ | refine Run.skip ?_ | refine Run.block ?_)
      refine Run.region ?_
      refine O.move rfl rfl ?_
      refine O.lend (ln := [200]) cn rfl rfl rfl (.inr (men_a1 rfl)) (by repeat (first | exact BxIn.nil | refine BxIn.cons rfl ?_)) rfl rfl rfl rfl rfl rfl rfl rfl rfl rfl ?_
      refine O.alloc hE 7 T51 rfl rfl rfl ?_
      refine O.store hE T51 rfl rfl rfl rfl rfl rfl ?_
      refine O.nil ?_
      try refine Run.keep [0,1,2,6,7,8,9,19,29,30,32,33,39,45,67,73,74,81,96,116,119] rfl rfl ?_
      repeat (first | refine Run.seq ?_ | refine Run.skip ?_ | refine Run.block ?_)
      refine Run.region ?_
      refine O.move rfl rfl ?_
      first | refine O.cmp rfl rfl rfl (by first | exact dT (by omega) | exact dF (by omega)) rfl ?_ | refine O.cmp rfl rfl rfl rfl rfl ?_
      refine O.move rfl rfl ?_
      first | (refine O.yes rfl rfl (by trivial) ?_; refine O.field hE L51 rfl rfl rfl rfl ?_) | refine O.no rfl rfl rfl rfl ?_
      first | (refine O.yes rfl rfl (by trivial) ?_; first | refine O.loadS hE T3 rfl rfl rfl (by rfl) rfl ?_ | refine O.loadE hE T3 rfl rfl (by rfl) rfl ?_ | refine O.load hE T3 rfl rfl rfl rfl ?_) | refine O.no rfl rfl rfl rfl ?_
      first | (refine O.yes rfl rfl (by trivial) ?_; refine O.callE c5 rfl (by first | rfl | simp [closed, men3, mens2_app, mens2_ints, mens2, men2, men1, mens1_app, mens1_ints, mens1]) (by first | rfl | simp [d2, ds1_ints, ds1_app, ds1, d1, ds0_app, ds0_ints, ds0, d0]) rfl ?_) | refine O.no rfl rfl rfl rfl ?_
      first | (refine O.yes rfl rfl (by trivial) ?_; first | refine O.cmp rfl rfl rfl (by first | exact dT (by omega) | exact dF (by omega)) rfl ?_ | refine O.cmp rfl rfl rfl rfl rfl ?_) | refine O.no rfl rfl rfl rfl ?_
      refine O.pick rfl rfl rfl rfl rfl ?_
      refine O.nil ?_
      try refine Run.keep [0,1,2,6,7,8,9,19,29,30,32,33,39,45,67,73,74,81,96,116,119] rfl rfl ?_
      repeat (first | refine Run.seq ?_ | refine Run.skip ?_)
      first | refine Run.condT rfl rfl ?_ | refine Run.condF rfl rfl ?_ | refine Run.condT rfl (by assumption) ?_ | refine Run.condF rfl (by assumption) ?_
      repeat (first | refine Run.seq ?_ | refine Run.skip ?_ | refine Run.block ?_)
      refine Run.region ?_
      refine O.move rfl rfl ?_
      first | refine O.ar rfl rfl rfl (by exact wrap_i64 (by omega) (by omega)) rfl ?_ | refine O.ar rfl rfl rfl rfl rfl ?_
      refine O.assign rfl rfl ?_
      refine O.nil ?_
      try refine Run.keep [0,1,2,6,7,8,9,19,29,30,32,33,39,45,67,73,74,81,96,116,119] rfl rfl ?_
      repeat (first | refine Run.seq ?_ | refine Run.skip ?_ | refine Run.block ?_)
      refine Run.region ?_
      refine O.field hE L51 rfl rfl rfl rfl ?_
      first | refine O.loadS hE T3 rfl rfl rfl (by rfl) rfl ?_ | refine O.loadE hE T3 rfl rfl (by rfl) rfl ?_ | refine O.load hE T3 rfl rfl rfl rfl ?_
      refine O.callE c7 rfl (by first | rfl | simp [closed, men3, mens2_app, mens2_ints, mens2, men2, men1, mens1_app, mens1_ints, mens1]) (by first | rfl | simp [d2, ds1_ints, ds1_app, ds1, d1, ds0_app, ds0_ints, ds0, d0]) rfl ?_
      refine O.assign rfl rfl ?_
      refine O.nil ?_
      try refine Run.keep [0,1,2,6,7,8,9,19,29,30,32,33,39,45,67,73,74,81,96,116,119] rfl rfl ?_
      repeat (first | refine Run.seq ?_ | refine Run.skip ?_ | refine Run.block ?_)
      refine Run.region ?_
      refine O.move rfl rfl ?_
      refine O.nil ?_
      try refine Run.keep [0,1,2,6,7,8,9,19,29,30,32,33,39,45,67,73,74,81,96,116,119] rfl rfl ?_
      repeat (first | refine Run.seq ?_ | refine Run.skip ?_ | refine Run.block ?_)
      refine Run.region ?_
      first | refine O.cmp rfl rfl rfl (by first | exact dT (by omega) | exact dF (by omega)) rfl ?_ | refine O.cmp rfl rfl rfl rfl rfl ?_
      refine O.assign rfl rfl ?_
      refine O.nil ?_
      try refine Run.keep [0,1,2,6,7,8,9,19,29,30,32,33,39,45,67,73,74,81,96,116,119] rfl rfl ?_
      repeat (first | refine Run.seq ?_ | refine Run.skip ?_)
      first | refine Run.condT rfl rfl ?_ | refine Run.condF rfl rfl ?_ | refine Run.condT rfl (by assumption) ?_ | refine Run.condF rfl (by assumption) ?_
      repeat (first | refine Run.seq ?_ | refine Run.skip ?_ | refine Run.block ?_)
      refine Run.region ?_
      refine O.move rfl rfl ?_
      refine O.nil ?_
      try refine Run.keep [0,1,2,6,7,8,9,19,29,30,32,33,39,45,67,73,74,81,96,116,119] rfl rfl ?_
      repeat (first | refine Run.seq ?_ | refine Run.skip ?_ | refine Run.block ?_)
      refine Run.region ?_
      first | refine O.cmp rfl rfl rfl (by first | exact dT (by omega) | exact dF (by omega)) rfl ?_ | refine O.cmp rfl rfl rfl rfl rfl ?_
      refine O.assign rfl rfl ?_
      refine O.nil ?_
      try refine Run.keep [0,1,2,6,7,8,9,19,29,30,32,33,39,45,67,73,74,81,96,116,119] rfl rfl ?_
      repeat (first | refine Run.seq ?_ | refine Run.skip ?_)
      first | refine Run.condT rfl rfl ?_ | refine Run.condF rfl rfl ?_ | refine Run.condT rfl (by assumption) ?_ | refine Run.condF rfl (by assumption) ?_
      repeat (first | refine Run.seq ?_ | refine Run.skip ?_ | refine Run.block ?_)
      refine Run.region ?_
      first | refine O.cmp rfl rfl rfl (by first | exact dT (by omega) | exact dF (by omega)) rfl ?_ | refine O.cmp rfl rfl rfl rfl rfl ?_
      refine O.assign rfl rfl ?_
      refine O.nil ?_
      try refine Run.keep [0,1,2,6,7,8,9,19,29,30,32,33,39,45,67,73,74,81,96,116,119] rfl rfl ?_
      repeat (first | refine Run.seq ?_ | refine Run.skip ?_)
      first | refine Run.condT rfl rfl ?_ | refine Run.condF rfl rfl ?_ | refine Run.condT rfl (by assumption) ?_ | refine Run.condF rfl (by assumption) ?_
      repeat (first | refine Run.seq ?_ | refine Run.skip ?_ | refine Run.block ?_)
      refine Run.region ?_
      first | refine O.cmp rfl rfl rfl (by first | exact dT (by omega) | exact dF (by omega)) rfl ?_ | refine O.cmp rfl rfl rfl rfl rfl ?_
      refine O.assign rfl rfl ?_
      refine O.nil ?_
      try refine Run.keep [0,1,2,6,7,8,9,19,29,30,32,33,39,45,67,73,74,81,96,116,119] rfl rfl ?_
      repeat (first | refine Run.seq ?_ | refine Run.skip ?_)
      first | refine Run.condT rfl rfl ?_ | refine Run.condF rfl rfl ?_ | refine Run.condT rfl (by assumption) ?_ | refine Run.condF rfl (by assumption) ?_
      repeat (first | refine Run.seq ?_ | refine Run.skip ?_ | refine Run.block ?_)
      refine Run.region ?_
      refine O.move rfl rfl ?_
      refine O.move rfl rfl ?_
      refine O.move rfl rfl ?_
      refine O.lend (ln := [200]) cx1 rfl rfl rfl (.inr (men_a3 rfl rfl rfl)) (by repeat (first | exact BxIn.nil | refine BxIn.cons rfl ?_)) rfl rfl rfl rfl rfl rfl rfl rfl rfl rfl ?_
      refine O.move rfl rfl ?_
      refine O.move rfl rfl ?_
      refine O.move rfl rfl ?_
      refine O.lend (ln := [200]) cx2 rfl rfl rfl (.inr (men_a3 rfl rfl rfl)) (by repeat (first | exact BxIn.nil | refine BxIn.cons rfl ?_)) rfl rfl rfl rfl rfl rfl rfl rfl rfl rfl ?_
      refine O.callE co rfl (by first | rfl | simp [closed, men3, mens2_app, mens2_ints, mens2, men2, men1, mens1_app, mens1_ints, mens1]) (by first | rfl | simp [d2, ds1_ints, ds1_app, ds1, d1, ds0_app, ds0_ints, ds0, d0]) rfl ?_
      refine O.store hE T28 rfl rfl rfl rfl rfl rfl ?_
      refine O.nil ?_
      try refine Run.keep [0,1,2,6,7,8,9,19,29,30,32,33,39,45,67,73,74,81,96,116,119] rfl rfl ?_
      refine Run.ret ?_
      exact ⟨_, _, ⟨.bi (20) x1 x2, m2, ⟨by omega, by omega, .bi (by unfold BiTy; omega) a3 b3, bi_dp a4 b4⟩, rfl, rfl⟩, Ends.of hE (.inr rfl) rfl rfl (SLe.drop (by repeat (first | exact TmIn.nil | refine TmIn.cons rfl ?_)) (by repeat (first | exact BxIn.nil | refine BxIn.cons rfl ?_)) rfl rfl)⟩
    ·
      obtain ⟨x1, m1, ⟨a1, a2, a3, a4⟩, cx1⟩ := sub hd2 2 (by omega) (by omega)
      obtain ⟨x2, m2, ⟨b1, b2, b3, b4⟩, cx2⟩ := sub2 hd2 2 (by omega) (by omega) m1 (by omega) (by omega)
      have co := (fnOp2 (g := g) (op := 5 + z7) x1 x2).lent [200]
      repeat (first | refine Run.seq ?_ | refine Run.skip ?_ | refine Run.block ?_)
      refine Run.region ?_
      refine O.alloc hE 6 T28 rfl rfl rfl ?_
      refine O.nil ?_
      try refine Run.keep [0,1,2,6,7,8,9,19,29,30,32,33,39,45,67,73,74,81,96,116,119] rfl rfl ?_
      repeat (first | refine Run.seq ?_ | refine Run.skip ?_ | refine Run.block ?_)
      refine Run.region ?_
      refine O.move rfl rfl ?_
      refine O.lend (ln := [200]) cn rfl rfl rfl (.inr (men_a1 rfl)) (by repeat (first | exact BxIn.nil | refine BxIn.cons rfl ?_)) rfl rfl rfl rfl rfl rfl rfl rfl rfl rfl ?_
      refine O.alloc hE 7 T51 rfl rfl rfl ?_
      refine O.store hE T51 rfl rfl rfl rfl rfl rfl ?_
      refine O.nil ?_
      try refine Run.keep [0,1,2,6,7,8,9,19,29,30,32,33,39,45,67,73,74,81,96,116,119] rfl rfl ?_
      repeat (first | refine Run.seq ?_ | refine Run.skip ?_ | refine Run.block ?_)
      refine Run.region ?_
      refine O.move rfl rfl ?_
      first | refine O.cmp rfl rfl rfl (by first | exact dT (by omega) | exact dF (by omega)) rfl ?_ | refine O.cmp rfl rfl rfl rfl rfl ?_
      refine O.move rfl rfl ?_
      first | (refine O.yes rfl rfl (by trivial) ?_; refine O.field hE L51 rfl rfl rfl rfl ?_) | refine O.no rfl rfl rfl rfl ?_
      first | (refine O.yes rfl rfl (by trivial) ?_; first | refine O.loadS hE T3 rfl rfl rfl (by rfl) rfl ?_ | refine O.loadE hE T3 rfl rfl (by rfl) rfl ?_ | refine O.load hE T3 rfl rfl rfl rfl ?_) | refine O.no rfl rfl rfl rfl ?_
      first | (refine O.yes rfl rfl (by trivial) ?_; refine O.callE c5 rfl (by first | rfl | simp [closed, men3, mens2_app, mens2_ints, mens2, men2, men1, mens1_app, mens1_ints, mens1]) (by first | rfl | simp [d2, ds1_ints, ds1_app, ds1, d1, ds0_app, ds0_ints, ds0, d0]) rfl ?_) | refine O.no rfl rfl rfl rfl ?_
      first | (refine O.yes rfl rfl (by trivial) ?_; first | refine O.cmp rfl rfl rfl (by first | exact dT (by omega) | exact dF (by omega)) rfl ?_ | refine O.cmp rfl rfl rfl rfl rfl ?_) | refine O.no rfl rfl rfl rfl ?_
      refine O.pick rfl rfl rfl rfl rfl ?_
      refine O.nil ?_
      try refine Run.keep [0,1,2,6,7,8,9,19,29,30,32,33,39,45,67,73,74,81,96,116,119] rfl rfl ?_
      repeat (first | refine Run.seq ?_ | refine Run.skip ?_)
      first | refine Run.condT rfl rfl ?_ | refine Run.condF rfl rfl ?_ | refine Run.condT rfl (by assumption) ?_ | refine Run.condF rfl (by assumption) ?_
      repeat (first | refine Run.seq ?_ | refine Run.skip ?_ | refine Run.block ?_)
      refine Run.region ?_
      refine O.move rfl rfl ?_
      first | refine O.ar rfl rfl rfl (by exact wrap_i64 (by omega) (by omega)) rfl ?_ | refine O.ar rfl rfl rfl rfl rfl ?_
      refine O.assign rfl rfl ?_
      refine O.nil ?_
      try refine Run.keep [0,1,2,6,7,8,9,19,29,30,32,33,39,45,67,73,74,81,96,116,119] rfl rfl ?_
      repeat (first | refine Run.seq ?_ | refine Run.skip ?_ | refine Run.block ?_)
      refine Run.region ?_
      refine O.field hE L51 rfl rfl rfl rfl ?_
      first | refine O.loadS hE T3 rfl rfl rfl (by rfl) rfl ?_ | refine O.loadE hE T3 rfl rfl (by rfl) rfl ?_ | refine O.load hE T3 rfl rfl rfl rfl ?_
      refine O.callE c7 rfl (by first | rfl | simp [closed, men3, mens2_app, mens2_ints, mens2, men2, men1, mens1_app, mens1_ints, mens1]) (by first | rfl | simp [d2, ds1_ints, ds1_app, ds1, d1, ds0_app, ds0_ints, ds0, d0]) rfl ?_
      refine O.assign rfl rfl ?_
      refine O.nil ?_
      try refine Run.keep [0,1,2,6,7,8,9,19,29,30,32,33,39,45,67,73,74,81,96,116,119] rfl rfl ?_
      repeat (first | refine Run.seq ?_ | refine Run.skip ?_ | refine Run.block ?_)
      refine Run.region ?_
      refine O.move rfl rfl ?_
      refine O.nil ?_
      try refine Run.keep [0,1,2,6,7,8,9,19,29,30,32,33,39,45,67,73,74,81,96,116,119] rfl rfl ?_
      repeat (first | refine Run.seq ?_ | refine Run.skip ?_ | refine Run.block ?_)
      refine Run.region ?_
      first | refine O.cmp rfl rfl rfl (by first | exact dT (by omega) | exact dF (by omega)) rfl ?_ | refine O.cmp rfl rfl rfl rfl rfl ?_
      refine O.assign rfl rfl ?_
      refine O.nil ?_
      try refine Run.keep [0,1,2,6,7,8,9,19,29,30,32,33,39,45,67,73,74,81,96,116,119] rfl rfl ?_
      repeat (first | refine Run.seq ?_ | refine Run.skip ?_)
      first | refine Run.condT rfl rfl ?_ | refine Run.condF rfl rfl ?_ | refine Run.condT rfl (by assumption) ?_ | refine Run.condF rfl (by assumption) ?_
      repeat (first | refine Run.seq ?_ | refine Run.skip ?_ | refine Run.block ?_)
      refine Run.region ?_
      refine O.move rfl rfl ?_
      refine O.nil ?_
      try refine Run.keep [0,1,2,6,7,8,9,19,29,30,32,33,39,45,67,73,74,81,96,116,119] rfl rfl ?_
      repeat (first | refine Run.seq ?_ | refine Run.skip ?_ | refine Run.block ?_)
      refine Run.region ?_
      first | refine O.cmp rfl rfl rfl (by first | exact dT (by omega) | exact dF (by omega)) rfl ?_ | refine O.cmp rfl rfl rfl rfl rfl ?_
      refine O.assign rfl rfl ?_
      refine O.nil ?_
      try refine Run.keep [0,1,2,6,7,8,9,19,29,30,32,33,39,45,67,73,74,81,96,116,119] rfl rfl ?_
      repeat (first | refine Run.seq ?_ | refine Run.skip ?_)
      first | refine Run.condT rfl rfl ?_ | refine Run.condF rfl rfl ?_ | refine Run.condT rfl (by assumption) ?_ | refine Run.condF rfl (by assumption) ?_
      repeat (first | refine Run.seq ?_ | refine Run.skip ?_ | refine Run.block ?_)
      refine Run.region ?_
      first | refine O.cmp rfl rfl rfl (by first | exact dT (by omega) | exact dF (by omega)) rfl ?_ | refine O.cmp rfl rfl rfl rfl rfl ?_
      refine O.assign rfl rfl ?_
      refine O.nil ?_
      try refine Run.keep [0,1,2,6,7,8,9,19,29,30,32,33,39,45,67,73,74,81,96,116,119] rfl rfl ?_
      repeat (first | refine Run.seq ?_ | refine Run.skip ?_)
      first | refine Run.condT rfl rfl ?_ | refine Run.condF rfl rfl ?_ | refine Run.condT rfl (by assumption) ?_ | refine Run.condF rfl (by assumption) ?_
      repeat (first | refine Run.seq ?_ | refine Run.skip ?_ | refine Run.block ?_)
      refine Run.region ?_
      first | refine O.cmp rfl rfl rfl (by first | exact dT (by omega) | exact dF (by omega)) rfl ?_ | refine O.cmp rfl rfl rfl rfl rfl ?_
      refine O.assign rfl rfl ?_
      refine O.nil ?_
      try refine Run.keep [0,1,2,6,7,8,9,19,29,30,32,33,39,45,67,73,74,81,96,116,119] rfl rfl ?_
      repeat (first | refine Run.seq ?_ | refine Run.skip ?_)
      first | refine Run.condT rfl rfl ?_ | refine Run.condF rfl rfl ?_ | refine Run.condT rfl (by assumption) ?_ | refine Run.condF rfl (by assumption) ?_
      repeat (first | refine Run.seq ?_ | refine Run.skip ?_ | refine Run.block ?_)
      refine Run.region ?_
      refine O.move rfl rfl ?_
      first | refine O.ar rfl rfl rfl (by exact wrap_i64 (by omega) (by omega)) rfl ?_ | refine O.ar rfl rfl rfl rfl rfl ?_
      refine O.move rfl rfl ?_
      refine O.move rfl rfl ?_
      refine O.move rfl rfl ?_
      refine O.lend (ln := [200]) cx1 rfl rfl rfl (.inr (men_a3 rfl rfl rfl)) (by repeat (first | exact BxIn.nil | refine BxIn.cons rfl ?_)) rfl rfl rfl rfl rfl rfl rfl rfl rfl rfl ?_
      refine O.move rfl rfl ?_
      refine O.move rfl rfl ?_
      refine O.move rfl rfl ?_
      refine O.lend (ln := [200]) cx2 rfl rfl rfl (.inr (men_a3 rfl rfl rfl)) (by repeat (first | exact BxIn.nil | refine BxIn.cons rfl ?_)) rfl rfl rfl rfl rfl rfl rfl rfl rfl rfl ?_
      refine O.callE co rfl (by first | rfl | simp [closed, men3, mens2_app, mens2_ints, mens2, men2, men1, mens1_app, mens1_ints, mens1]) (by first | rfl | simp [d2, ds1_ints, ds1_app, ds1, d1, ds0_app, ds0_ints, ds0, d0]) rfl ?_
      refine O.store hE T28 rfl rfl rfl rfl rfl rfl ?_
      refine O.nil ?_
      try refine Run.keep [0,1,2,6,7,8,9,19,29,30,32,33,39,45,67,73,74,81,96,116,119] rfl rfl ?_
      refine Run.ret ?_
      exact ⟨_, _, ⟨.bi (5 + z7) x1 x2, m2, ⟨by omega, by omega, .bi (by unfold BiTy; omega) a3 b3, bi_dp a4 b4⟩, rfl, rfl⟩, Ends.of hE (.inr rfl) rfl rfl (SLe.drop (by repeat (first | exact TmIn.nil | refine TmIn.cons rfl ?_)) (by repeat (first | exact BxIn.nil | refine BxIn.cons rfl ?_)) rfl rfl)⟩
  ·
    obtain ⟨x1, m1, ⟨a1, a2, a3, a4⟩, cx1⟩ := sub hd2 3 (by omega) (by omega)
    obtain ⟨x2, m2, ⟨b1, b2, b3, b4⟩, cx2⟩ := sub2 hd2 3 (by omega) (by omega) m1 (by omega) (by omega)
    have co := (fnOp2 (g := g) (op := 20) x1 x2).lent [200]
    repeat (first | refine Run.seq ?_ | refine Run.skip ?_ | refine Run.block ?_)
    refine Run.region ?_
    refine O.alloc hE 6 T28 rfl rfl rfl ?_
    refine O.nil ?_
    try refine Run.keep [0,1,2,6,7,8,9,19,29,30,32,33,39,45,67,73,74,81,96,116,119] rfl rfl ?_
    repeat (first | refine Run.seq ?_ | refine Run.skip ?_ | refine Run.block ?_)
    refine Run.region ?_
    refine O.move rfl rfl ?_
    refine O.lend (ln := [200]) cn rfl rfl rfl (.inr (men_a1 rfl)) (by repeat (first | exact BxIn.nil | refine BxIn.cons rfl ?_)) rfl rfl rfl rfl rfl rfl rfl rfl rfl rfl ?_
    refine O.alloc hE 7 T51 rfl rfl rfl ?_
    refine O.store hE T51 rfl rfl rfl rfl rfl rfl ?_
    refine O.nil ?_
    try refine Run.keep [0,1,2,6,7,8,9,19,29,30,32,33,39,45,67,73,74,81,96,116,119] rfl rfl ?_
    repeat (first | refine Run.seq ?_ | refine Run.skip ?_ | refine Run.block ?_)
    refine Run.region ?_
    refine O.move rfl rfl ?_
    first | refine O.cmp rfl rfl rfl (by first | exact dT (by omega) | exact dF (by omega)) rfl ?_ | refine O.cmp rfl rfl rfl rfl rfl ?_
    refine O.move rfl rfl ?_
    first | (refine O.yes rfl rfl (by trivial) ?_; refine O.field hE L51 rfl rfl rfl rfl ?_) | refine O.no rfl rfl rfl rfl ?_
    first | (refine O.yes rfl rfl (by trivial) ?_; first | refine O.loadS hE T3 rfl rfl rfl (by rfl) rfl ?_ | refine O.loadE hE T3 rfl rfl (by rfl) rfl ?_ | refine O.load hE T3 rfl rfl rfl rfl ?_) | refine O.no rfl rfl rfl rfl ?_
    first | (refine O.yes rfl rfl (by trivial) ?_; refine O.callE c5 rfl (by first | rfl | simp [closed, men3, mens2_app, mens2_ints, mens2, men2, men1, mens1_app, mens1_ints, mens1]) (by first | rfl | simp [d2, ds1_ints, ds1_app, ds1, d1, ds0_app, ds0_ints, ds0, d0]) rfl ?_) | refine O.no rfl rfl rfl rfl ?_
    first | (refine O.yes rfl rfl (by trivial) ?_; first | refine O.cmp rfl rfl rfl (by first | exact dT (by omega) | exact dF (by omega)) rfl ?_ | refine O.cmp rfl rfl rfl rfl rfl ?_) | refine O.no rfl rfl rfl rfl ?_
    refine O.pick rfl rfl rfl rfl rfl ?_
    refine O.nil ?_
    try refine Run.keep [0,1,2,6,7,8,9,19,29,30,32,33,39,45,67,73,74,81,96,116,119] rfl rfl ?_
    repeat (first | refine Run.seq ?_ | refine Run.skip ?_)
    first | refine Run.condT rfl rfl ?_ | refine Run.condF rfl rfl ?_ | refine Run.condT rfl (by assumption) ?_ | refine Run.condF rfl (by assumption) ?_
    repeat (first | refine Run.seq ?_ | refine Run.skip ?_ | refine Run.block ?_)
    refine Run.region ?_
    refine O.move rfl rfl ?_
    first | refine O.ar rfl rfl rfl (by exact wrap_i64 (by omega) (by omega)) rfl ?_ | refine O.ar rfl rfl rfl rfl rfl ?_
    refine O.assign rfl rfl ?_
    refine O.nil ?_
    try refine Run.keep [0,1,2,6,7,8,9,19,29,30,32,33,39,45,67,73,74,81,96,116,119] rfl rfl ?_
    repeat (first | refine Run.seq ?_ | refine Run.skip ?_ | refine Run.block ?_)
    refine Run.region ?_
    refine O.field hE L51 rfl rfl rfl rfl ?_
    first | refine O.loadS hE T3 rfl rfl rfl (by rfl) rfl ?_ | refine O.loadE hE T3 rfl rfl (by rfl) rfl ?_ | refine O.load hE T3 rfl rfl rfl rfl ?_
    refine O.callE c7 rfl (by first | rfl | simp [closed, men3, mens2_app, mens2_ints, mens2, men2, men1, mens1_app, mens1_ints, mens1]) (by first | rfl | simp [d2, ds1_ints, ds1_app, ds1, d1, ds0_app, ds0_ints, ds0, d0]) rfl ?_
    refine O.assign rfl rfl ?_
    refine O.nil ?_
    try refine Run.keep [0,1,2,6,7,8,9,19,29,30,32,33,39,45,67,73,74,81,96,116,119] rfl rfl ?_
    repeat (first | refine Run.seq ?_ | refine Run.skip ?_ | refine Run.block ?_)
    refine Run.region ?_
    refine O.move rfl rfl ?_
    refine O.nil ?_
    try refine Run.keep [0,1,2,6,7,8,9,19,29,30,32,33,39,45,67,73,74,81,96,116,119] rfl rfl ?_
    repeat (first | refine Run.seq ?_ | refine Run.skip ?_ | refine Run.block ?_)
    refine Run.region ?_
    first | refine O.cmp rfl rfl rfl (by first | exact dT (by omega) | exact dF (by omega)) rfl ?_ | refine O.cmp rfl rfl rfl rfl rfl ?_
    refine O.assign rfl rfl ?_
    refine O.nil ?_
    try refine Run.keep [0,1,2,6,7,8,9,19,29,30,32,33,39,45,67,73,74,81,96,116,119] rfl rfl ?_
    repeat (first | refine Run.seq ?_ | refine Run.skip ?_)
    first | refine Run.condT rfl rfl ?_ | refine Run.condF rfl rfl ?_ | refine Run.condT rfl (by assumption) ?_ | refine Run.condF rfl (by assumption) ?_
    repeat (first | refine Run.seq ?_ | refine Run.skip ?_ | refine Run.block ?_)
    refine Run.region ?_
    first | refine O.cmp rfl rfl rfl (by first | exact dT (by omega) | exact dF (by omega)) rfl ?_ | refine O.cmp rfl rfl rfl rfl rfl ?_
    refine O.assign rfl rfl ?_
    refine O.nil ?_
    try refine Run.keep [0,1,2,6,7,8,9,19,29,30,32,33,39,45,67,73,74,81,96,116,119] rfl rfl ?_
    repeat (first | refine Run.seq ?_ | refine Run.skip ?_)
    first | refine Run.condT rfl rfl ?_ | refine Run.condF rfl rfl ?_ | refine Run.condT rfl (by assumption) ?_ | refine Run.condF rfl (by assumption) ?_
    repeat (first | refine Run.seq ?_ | refine Run.skip ?_ | refine Run.block ?_)
    refine Run.region ?_
    first | refine O.cmp rfl rfl rfl (by first | exact dT (by omega) | exact dF (by omega)) rfl ?_ | refine O.cmp rfl rfl rfl rfl rfl ?_
    refine O.assign rfl rfl ?_
    refine O.nil ?_
    try refine Run.keep [0,1,2,6,7,8,9,19,29,30,32,33,39,45,67,73,74,81,96,116,119] rfl rfl ?_
    repeat (first | refine Run.seq ?_ | refine Run.skip ?_)
    first | refine Run.condT rfl rfl ?_ | refine Run.condF rfl rfl ?_ | refine Run.condT rfl (by assumption) ?_ | refine Run.condF rfl (by assumption) ?_
    repeat (first | refine Run.seq ?_ | refine Run.skip ?_ | refine Run.block ?_)
    refine Run.region ?_
    refine O.move rfl rfl ?_
    refine O.move rfl rfl ?_
    refine O.move rfl rfl ?_
    refine O.lend (ln := [200]) cx1 rfl rfl rfl (.inr (men_a3 rfl rfl rfl)) (by repeat (first | exact BxIn.nil | refine BxIn.cons rfl ?_)) rfl rfl rfl rfl rfl rfl rfl rfl rfl rfl ?_
    refine O.move rfl rfl ?_
    refine O.move rfl rfl ?_
    refine O.move rfl rfl ?_
    refine O.lend (ln := [200]) cx2 rfl rfl rfl (.inr (men_a3 rfl rfl rfl)) (by repeat (first | exact BxIn.nil | refine BxIn.cons rfl ?_)) rfl rfl rfl rfl rfl rfl rfl rfl rfl rfl ?_
    refine O.callE co rfl (by first | rfl | simp [closed, men3, mens2_app, mens2_ints, mens2, men2, men1, mens1_app, mens1_ints, mens1]) (by first | rfl | simp [d2, ds1_ints, ds1_app, ds1, d1, ds0_app, ds0_ints, ds0, d0]) rfl ?_
    refine O.store hE T28 rfl rfl rfl rfl rfl rfl ?_
    refine O.nil ?_
    try refine Run.keep [0,1,2,6,7,8,9,19,29,30,32,33,39,45,67,73,74,81,96,116,119] rfl rfl ?_
    refine Run.ret ?_
    exact ⟨_, _, ⟨.bi (20) x1 x2, m2, ⟨by omega, by omega, .bi (by unfold BiTy; omega) a3 b3, bi_dp a4 b4⟩, rfl, rfl⟩, Ends.of hE (.inr rfl) rfl rfl (SLe.drop (by repeat (first | exact TmIn.nil | refine TmIn.cons rfl ?_)) (by repeat (first | exact BxIn.nil | refine BxIn.cons rfl ?_)) rfl rfl)⟩
  ·
    by_cases hz : z7 < 4
    ·
      obtain ⟨x1, m1, ⟨a1, a2, a3, a4⟩, cx1⟩ := sub hd2 4 (by omega) (by omega)
      obtain ⟨x2, m2, ⟨b1, b2, b3, b4⟩, cx2⟩ := sub2 hd2 4 (by omega) (by omega) m1 (by omega) (by omega)
      have co := (fnOp2 (g := g) (op := 19) x1 x2).lent [200]
      repeat (first | refine Run.seq ?_ | refine Run.skip ?_ | refine Run.block ?_)
      refine Run.region ?_
      refine O.alloc hE 6 T28 rfl rfl rfl ?_
      refine O.nil ?_
      try refine Run.keep [0,1,2,6,7,8,9,19,29,30,32,33,39,45,67,73,74,81,96,116,119] rfl rfl ?_
      repeat (first | refine Run.seq ?_ | refine Run.skip ?_ | refine Run.block ?_)
      refine Run.region ?_
      refine O.move rfl rfl ?_
      refine O.lend (ln := [200]) cn rfl rfl rfl (.inr (men_a1 rfl)) (by repeat (first | exact BxIn.nil | refine BxIn.cons rfl ?_)) rfl rfl rfl rfl rfl rfl rfl rfl rfl rfl ?_
      refine O.alloc hE 7 T51 rfl rfl rfl ?_
      refine O.store hE T51 rfl rfl rfl rfl rfl rfl ?_
      refine O.nil ?_
      try refine Run.keep [0,1,2,6,7,8,9,19,29,30,32,33,39,45,67,73,74,81,96,116,119] rfl rfl ?_
      repeat (first | refine Run.seq ?_ | refine Run.skip ?_ | refine Run.block ?_)
      refine Run.region ?_
      refine O.move rfl rfl ?_
      first | refine O.cmp rfl rfl rfl (by first | exact dT (by omega) | exact dF (by omega)) rfl ?_ | refine O.cmp rfl rfl rfl rfl rfl ?_
      refine O.move rfl rfl ?_
      first | (refine O.yes rfl rfl (by trivial) ?_; refine O.field hE L51 rfl rfl rfl rfl ?_) | refine O.no rfl rfl rfl rfl ?_
      first | (refine O.yes rfl rfl (by trivial) ?_; first | refine O.loadS hE T3 rfl rfl rfl (by rfl) rfl ?_ | refine O.loadE hE T3 rfl rfl (by rfl) rfl ?_ | refine O.load hE T3 rfl rfl rfl rfl ?_) | refine O.no rfl rfl rfl rfl ?_
      first | (refine O.yes rfl rfl (by trivial) ?_; refine O.callE c5 rfl (by first | rfl | simp [closed, men3, mens2_app, mens2_ints, mens2, men2, men1, mens1_app, mens1_ints, mens1]) (by first | rfl | simp [d2, ds1_ints, ds1_app, ds1, d1, ds0_app, ds0_ints, ds0, d0]) rfl ?_) | refine O.no rfl rfl rfl rfl ?_
      first | (refine O.yes rfl rfl (by trivial) ?_; first | refine O.cmp rfl rfl rfl (by first | exact dT (by omega) | exact dF (by omega)) rfl ?_ | refine O.cmp rfl rfl rfl rfl rfl ?_) | refine O.no rfl rfl rfl rfl ?_
      refine O.pick rfl rfl rfl rfl rfl ?_
      refine O.nil ?_
      try refine Run.keep [0,1,2,6,7,8,9,19,29,30,32,33,39,45,67,73,74,81,96,116,119] rfl rfl ?_
      repeat (first | refine Run.seq ?_ | refine Run.skip ?_)
      first | refine Run.condT rfl rfl ?_ | refine Run.condF rfl rfl ?_ | refine Run.condT rfl (by assumption) ?_ | refine Run.condF rfl (by assumption) ?_
      repeat (first | refine Run.seq ?_ | refine Run.skip ?_ | refine Run.block ?_)
      refine Run.region ?_
      refine O.move rfl rfl ?_
      first | refine O.ar rfl rfl rfl (by exact wrap_i64 (by omega) (by omega)) rfl ?_ | refine O.ar rfl rfl rfl rfl rfl ?_
      refine O.assign rfl rfl ?_
      refine O.nil ?_
      try refine Run.keep [0,1,2,6,7,8,9,19,29,30,32,33,39,45,67,73,74,81,96,116,119] rfl rfl ?_
      repeat (first | refine Run.seq ?_ | refine Run.skip ?_ | refine Run.block ?_)
      refine Run.region ?_
      refine O.field hE L51 rfl rfl rfl rfl ?_
      first | refine O.loadS hE T3 rfl rfl rfl (by rfl) rfl ?_ | refine O.loadE hE T3 rfl rfl (by rfl) rfl ?_ | refine O.load hE T3 rfl rfl rfl rfl ?_
      refine O.callE c7 rfl (by first | rfl | simp [closed, men3, mens2_app, mens2_ints, mens2, men2, men1, mens1_app, mens1_ints, mens1]) (by first | rfl | simp [d2, ds1_ints, ds1_app, ds1, d1, ds0_app, ds0_ints, ds0, d0]) rfl ?_
      refine O.assign rfl rfl ?_
      refine O.nil ?_
      try refine Run.keep [0,1,2,6,7,8,9,19,29,30,32,33,39,45,67,73,74,81,96,116,119] rfl rfl ?_
      repeat (first | refine Run.seq ?_ | refine Run.skip ?_ | refine Run.block ?_)
      refine Run.region ?_
      refine O.move rfl rfl ?_
      refine O.nil ?_
      try refine Run.keep [0,1,2,6,7,8,9,19,29,30,32,33,39,45,67,73,74,81,96,116,119] rfl rfl ?_
      repeat (first | refine Run.seq ?_ | refine Run.skip ?_ | refine Run.block ?_)
      refine Run.region ?_
      first | refine O.cmp rfl rfl rfl (by first | exact dT (by omega) | exact dF (by omega)) rfl ?_ | refine O.cmp rfl rfl rfl rfl rfl ?_
      refine O.assign rfl rfl ?_
      refine O.nil ?_
      try refine Run.keep [0,1,2,6,7,8,9,19,29,30,32,33,39,45,67,73,74,81,96,116,119] rfl rfl ?_
      repeat (first | refine Run.seq ?_ | refine Run.skip ?_)
      first | refine Run.condT rfl rfl ?_ | refine Run.condF rfl rfl ?_ | refine Run.condT rfl (by assumption) ?_ | refine Run.condF rfl (by assumption) ?_
      repeat (first | refine Run.seq ?_ | refine Run.skip ?_ | refine Run.block ?_)
      refine Run.region ?_
      first | refine O.cmp rfl rfl rfl (by first | exact dT (by omega) | exact dF (by omega)) rfl ?_ | refine O.cmp rfl rfl rfl rfl rfl ?_
      refine O.assign rfl rfl ?_
      refine O.nil ?_
      try refine Run.keep [0,1,2,6,7,8,9,19,29,30,32,33,39,45,67,73,74,81,96,116,119] rfl rfl ?_
      repeat (first | refine Run.seq ?_ | refine Run.skip ?_)
      first | refine Run.condT rfl rfl ?_ | refine Run.condF rfl rfl ?_ | refine Run.condT rfl (by assumption) ?_ | refine Run.condF rfl (by assumption) ?_
      repeat (first | refine Run.seq ?_ | refine Run.skip ?_ | refine Run.block ?_)
      refine Run.region ?_
      first | refine O.cmp rfl rfl rfl (by first | exact dT (by omega) | exact dF (by omega)) rfl ?_ | refine O.cmp rfl rfl rfl rfl rfl ?_
      refine O.assign rfl rfl ?_
      refine O.nil ?_
      try refine Run.keep [0,1,2,6,7,8,9,19,29,30,32,33,39,45,67,73,74,81,96,116,119] rfl rfl ?_
      repeat (first | refine Run.seq ?_ | refine Run.skip ?_)
      first | refine Run.condT rfl rfl ?_ | refine Run.condF rfl rfl ?_ | refine Run.condT rfl (by assumption) ?_ | refine Run.condF rfl (by assumption) ?_
      repeat (first | refine Run.seq ?_ | refine Run.skip ?_ | refine Run.block ?_)
      refine Run.region ?_
      refine O.move rfl rfl ?_
      first | refine O.cmp rfl rfl rfl (by first | exact dT (by omega) | exact dF (by omega)) rfl ?_ | refine O.cmp rfl rfl rfl rfl rfl ?_
      refine O.nil ?_
      try refine Run.keep [0,1,2,6,7,8,9,19,29,30,32,33,39,45,67,73,74,81,96,116,119] rfl rfl ?_
      repeat (first | refine Run.seq ?_ | refine Run.skip ?_)
      first | refine Run.condT rfl rfl ?_ | refine Run.condF rfl rfl ?_ | refine Run.condT rfl (by assumption) ?_ | refine Run.condF rfl (by assumption) ?_
      repeat (first | refine Run.seq ?_ | refine Run.skip ?_ | refine Run.block ?_)
      refine Run.region ?_
      refine O.move rfl rfl ?_
      refine O.move rfl rfl ?_
      refine O.move rfl rfl ?_
      refine O.lend (ln := [200]) cx1 rfl rfl rfl (.inr (men_a3 rfl rfl rfl)) (by repeat (first | exact BxIn.nil | refine BxIn.cons rfl ?_)) rfl rfl rfl rfl rfl rfl rfl rfl rfl rfl ?_
      refine O.move rfl rfl ?_
      refine O.move rfl rfl ?_
      refine O.move rfl rfl ?_
      refine O.lend (ln := [200]) cx2 rfl rfl rfl (.inr (men_a3 rfl rfl rfl)) (by repeat (first | exact BxIn.nil | refine BxIn.cons rfl ?_)) rfl rfl rfl rfl rfl rfl rfl rfl rfl rfl ?_
      refine O.callE co rfl (by first | rfl | simp [closed, men3, mens2_app, mens2_ints, mens2, men2, men1, mens1_app, mens1_ints, mens1]) (by first | rfl | simp [d2, ds1_ints, ds1_app, ds1, d1, ds0_app, ds0_ints, ds0, d0]) rfl ?_
      refine O.store hE T28 rfl rfl rfl rfl rfl rfl ?_
      refine O.nil ?_
      try refine Run.keep [0,1,2,6,7,8,9,19,29,30,32,33,39,45,67,73,74,81,96,116,119] rfl rfl ?_
      refine Run.ret ?_
      exact ⟨_, _, ⟨.bi (19) x1 x2, m2, ⟨by omega, by omega, .bi (by unfold BiTy; omega) a3 b3, bi_dp a4 b4⟩, rfl, rfl⟩, Ends.of hE (.inr rfl) rfl rfl (SLe.drop (by repeat (first | exact TmIn.nil | refine TmIn.cons rfl ?_)) (by repeat (first | exact BxIn.nil | refine BxIn.cons rfl ?_)) rfl rfl)⟩
    ·
      obtain ⟨x1, m1, ⟨a1, a2, a3, a4⟩, cx1⟩ := sub hd2 4 (by omega) (by omega)
      obtain ⟨x2, m2, ⟨b1, b2, b3, b4⟩, cx2⟩ := sub2 hd2 4 (by omega) (by omega) m1 (by omega) (by omega)
      have co := (fnOp2 (g := g) (op := 20) x1 x2).lent [200]
      repeat (first | refine Run.seq ?_ | refine Run.skip ?_ | refine Run.block ?_)
      refine Run.region ?_
      refine O.alloc hE 6 T28 rfl rfl rfl ?_
      refine O.nil ?_
      try refine Run.keep [0,1,2,6,7,8,9,19,29,30,32,33,39,45,67,73,74,81,96,116,119] rfl rfl ?_
      repeat (first | refine Run.seq ?_ | refine Run.skip ?_ | refine Run.block ?_)
      refine Run.region ?_
      refine O.move rfl rfl ?_
      refine O.lend (ln := [200]) cn rfl rfl rfl (.inr (men_a1 rfl)) (by repeat (first | exact BxIn.nil | refine BxIn.cons rfl ?_)) rfl rfl rfl rfl rfl rfl rfl rfl rfl rfl ?_
      refine O.alloc hE 7 T51 rfl rfl rfl ?_
      refine O.store hE T51 rfl rfl rfl rfl rfl rfl ?_
      refine O.nil ?_
      try refine Run.keep [0,1,2,6,7,8,9,19,29,30,32,33,39,45,67,73,74,81,96,116,119] rfl rfl ?_
      repeat (first | refine Run.seq ?_ | refine Run.skip ?_ | refine Run.block ?_)
      refine Run.region ?_
      refine O.move rfl rfl ?_
      first | refine O.cmp rfl rfl rfl (by first | exact dT (by omega) | exact dF (by omega)) rfl ?_ | refine O.cmp rfl rfl rfl rfl rfl ?_
      refine O.move rfl rfl ?_
      first | (refine O.yes rfl rfl (by trivial) ?_; refine O.field hE L51 rfl rfl rfl rfl ?_) | refine O.no rfl rfl rfl rfl ?_
      first | (refine O.yes rfl rfl (by trivial) ?_; first | refine O.loadS hE T3 rfl rfl rfl (by rfl) rfl ?_ | refine O.loadE hE T3 rfl rfl (by rfl) rfl ?_ | refine O.load hE T3 rfl rfl rfl rfl ?_) | refine O.no rfl rfl rfl rfl ?_
      first | (refine O.yes rfl rfl (by trivial) ?_; refine O.callE c5 rfl (by first | rfl | simp [closed, men3, mens2_app, mens2_ints, mens2, men2, men1, mens1_app, mens1_ints, mens1]) (by first | rfl | simp [d2, ds1_ints, ds1_app, ds1, d1, ds0_app, ds0_ints, ds0, d0]) rfl ?_) | refine O.no rfl rfl rfl rfl ?_
      first | (refine O.yes rfl rfl (by trivial) ?_; first | refine O.cmp rfl rfl rfl (by first | exact dT (by omega) | exact dF (by omega)) rfl ?_ | refine O.cmp rfl rfl rfl rfl rfl ?_) | refine O.no rfl rfl rfl rfl ?_
      refine O.pick rfl rfl rfl rfl rfl ?_
      refine O.nil ?_
      try refine Run.keep [0,1,2,6,7,8,9,19,29,30,32,33,39,45,67,73,74,81,96,116,119] rfl rfl ?_
      repeat (first | refine Run.seq ?_ | refine Run.skip ?_)
      first | refine Run.condT rfl rfl ?_ | refine Run.condF rfl rfl ?_ | refine Run.condT rfl (by assumption) ?_ | refine Run.condF rfl (by assumption) ?_
      repeat (first | refine Run.seq ?_ | refine Run.skip ?_ | refine Run.block ?_)
      refine Run.region ?_
      refine O.move rfl rfl ?_
      first | refine O.ar rfl rfl rfl (by exact wrap_i64 (by omega) (by omega)) rfl ?_ | refine O.ar rfl rfl rfl rfl rfl ?_
      refine O.assign rfl rfl ?_
      refine O.nil ?_
      try refine Run.keep [0,1,2,6,7,8,9,19,29,30,32,33,39,45,67,73,74,81,96,116,119] rfl rfl ?_
      repeat (first | refine Run.seq ?_ | refine Run.skip ?_ | refine Run.block ?_)
      refine Run.region ?_
      refine O.field hE L51 rfl rfl rfl rfl ?_
      first | refine O.loadS hE T3 rfl rfl rfl (by rfl) rfl ?_ | refine O.loadE hE T3 rfl rfl (by rfl) rfl ?_ | refine O.load hE T3 rfl rfl rfl rfl ?_
      refine O.callE c7 rfl (by first | rfl | simp [closed, men3, mens2_app, mens2_ints, mens2, men2, men1, mens1_app, mens1_ints, mens1]) (by first | rfl | simp [d2, ds1_ints, ds1_app, ds1, d1, ds0_app, ds0_ints, ds0, d0]) rfl ?_
      refine O.assign rfl rfl ?_
      refine O.nil ?_
      try refine Run.keep [0,1,2,6,7,8,9,19,29,30,32,33,39,45,67,73,74,81,96,116,119] rfl rfl ?_
      repeat (first | refine Run.seq ?_ | refine Run.skip ?_ | refine Run.block ?_)
      refine Run.region ?_
      refine O.move rfl rfl ?_
      refine O.nil ?_
      try refine Run.keep [0,1,2,6,7,8,9,19,29,30,32,33,39,45,67,73,74,81,96,116,119] rfl rfl ?_
      repeat (first | refine Run.seq ?_ | refine Run.skip ?_ | refine Run.block ?_)
      refine Run.region ?_
      first | refine O.cmp rfl rfl rfl (by first | exact dT (by omega) | exact dF (by omega)) rfl ?_ | refine O.cmp rfl rfl rfl rfl rfl ?_
      refine O.assign rfl rfl ?_
      refine O.nil ?_
      try refine Run.keep [0,1,2,6,7,8,9,19,29,30,32,33,39,45,67,73,74,81,96,116,119] rfl rfl ?_
      repeat (first | refine Run.seq ?_ | refine Run.skip ?_)
      first | refine Run.condT rfl rfl ?_ | refine Run.condF rfl rfl ?_ | refine Run.condT rfl (by assumption) ?_ | refine Run.condF rfl (by assumption) ?_
      repeat (first | refine Run.seq ?_ | refine Run.skip ?_ | refine Run.block ?_)
      refine Run.region ?_
      first | refine O.cmp rfl rfl rfl (by first | exact dT (by omega) | exact dF (by omega)) rfl ?_ | refine O.cmp rfl rfl rfl rfl rfl ?_
      refine O.assign rfl rfl ?_
      refine O.nil ?_
      try refine Run.keep [0,1,2,6,7,8,9,19,29,30,32,33,39,45,67,73,74,81,96,116,119] rfl rfl ?_
      repeat (first | refine Run.seq ?_ | refine Run.skip ?_)
      first | refine Run.condT rfl rfl ?_ | refine Run.condF rfl rfl ?_ | refine Run.condT rfl (by assumption) ?_ | refine Run.condF rfl (by assumption) ?_
      repeat (first | refine Run.seq ?_ | refine Run.skip ?_ | refine Run.block ?_)
      refine Run.region ?_
      first | refine O.cmp rfl rfl rfl (by first | exact dT (by omega) | exact dF (by omega)) rfl ?_ | refine O.cmp rfl rfl rfl rfl rfl ?_
      refine O.assign rfl rfl ?_
      refine O.nil ?_
      try refine Run.keep [0,1,2,6,7,8,9,19,29,30,32,33,39,45,67,73,74,81,96,116,119] rfl rfl ?_
      repeat (first | refine Run.seq ?_ | refine Run.skip ?_)
      first | refine Run.condT rfl rfl ?_ | refine Run.condF rfl rfl ?_ | refine Run.condT rfl (by assumption) ?_ | refine Run.condF rfl (by assumption) ?_
      repeat (first | refine Run.seq ?_ | refine Run.skip ?_ | refine Run.block ?_)
      refine Run.region ?_
      refine O.move rfl rfl ?_
      first | refine O.cmp rfl rfl rfl (by first | exact dT (by omega) | exact dF (by omega)) rfl ?_ | refine O.cmp rfl rfl rfl rfl rfl ?_
      refine O.nil ?_
      try refine Run.keep [0,1,2,6,7,8,9,19,29,30,32,33,39,45,67,73,74,81,96,116,119] rfl rfl ?_
      repeat (first | refine Run.seq ?_ | refine Run.skip ?_)
      first | refine Run.condT rfl rfl ?_ | refine Run.condF rfl rfl ?_ | refine Run.condT rfl (by assumption) ?_ | refine Run.condF rfl (by assumption) ?_
      repeat (first | refine Run.seq ?_ | refine Run.skip ?_ | refine Run.block ?_)
      refine Run.region ?_
      refine O.move rfl rfl ?_
      refine O.move rfl rfl ?_
      refine O.move rfl rfl ?_
      refine O.lend (ln := [200]) cx1 rfl rfl rfl (.inr (men_a3 rfl rfl rfl)) (by repeat (first | exact BxIn.nil | refine BxIn.cons rfl ?_)) rfl rfl rfl rfl rfl rfl rfl rfl rfl rfl ?_
      refine O.move rfl rfl ?_
      refine O.move rfl rfl ?_
      refine O.move rfl rfl ?_
      refine O.lend (ln := [200]) cx2 rfl rfl rfl (.inr (men_a3 rfl rfl rfl)) (by repeat (first | exact BxIn.nil | refine BxIn.cons rfl ?_)) rfl rfl rfl rfl rfl rfl rfl rfl rfl rfl ?_
      refine O.callE co rfl (by first | rfl | simp [closed, men3, mens2_app, mens2_ints, mens2, men2, men1, mens1_app, mens1_ints, mens1]) (by first | rfl | simp [d2, ds1_ints, ds1_app, ds1, d1, ds0_app, ds0_ints, ds0, d0]) rfl ?_
      refine O.store hE T28 rfl rfl rfl rfl rfl rfl ?_
      refine O.nil ?_
      try refine Run.keep [0,1,2,6,7,8,9,19,29,30,32,33,39,45,67,73,74,81,96,116,119] rfl rfl ?_
      refine Run.ret ?_
      exact ⟨_, _, ⟨.bi (20) x1 x2, m2, ⟨by omega, by omega, .bi (by unfold BiTy; omega) a3 b3, bi_dp a4 b4⟩, rfl, rfl⟩, Ends.of hE (.inr rfl) rfl rfl (SLe.drop (by repeat (first | exact TmIn.nil | refine TmIn.cons rfl ?_)) (by repeat (first | exact BxIn.nil | refine BxIn.cons rfl ?_)) rfl rfl)⟩
end Go.Proofs.YtdigejpgjnhclaaDoor.Vm
