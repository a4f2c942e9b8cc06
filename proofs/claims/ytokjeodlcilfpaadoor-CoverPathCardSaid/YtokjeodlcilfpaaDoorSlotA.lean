/- Slots: the slot that a raw thing makes, the slots of raw things. Conditions: none. -/
import Derived.Test.YtokjeodlcilfpaaDoorRightE
namespace Go.Proofs.YtokjeodlcilfpaaDoor.Vm
open Go Go.RowKit
set_option linter.unusedVariables false
set_option linter.unusedSimpArgs false
attribute [local irreducible] Ops Dr Run
section
variable {E : Env} {n : Nat} {tm : List (Nat × AV)} {bx : List (Nat × Box)} {ops : Array Oper} {l : List Oper} {d : Tmp} {ty : TypeId} {pos : String} {after : Array Edge}
theorem rts_tail {x : Operand} {xs : List Operand} {p : Nat × AV} (hp : p ∈ rtsOf E tm xs) : p ∈ rtsOf E tm (x :: xs) := by
  cases x with
  | tmp t =>
    simp only [rtsOf]
    split
    · exact List.mem_cons_of_mem _ hp
    · exact hp
  | const v => exact hp
  | global k => exact hp
  | func f => exact hp
theorem fillO_mono {place : Nat → Option (Nat × Nat)} {s : St} : ∀ (ps : List (Nat × Operand)) (cells r : List AV), fillO E place tm cells ps = some r → (∀ p ∈ rtsOf E tm (ps.map (·.2)), look s.tm p.1 = some p.2) → fillO E place s.tm cells ps = some r
  | [], cells, r, h, _ => h
  | (i, x) :: rest, cells, r, h, hs => by
    simp only [fillO] at h ⊢
    split at h
    · rename_i off size ys h1 h2
      split at h
      · rename_i c h3 h4
        rw [Option.bind_eq_some_iff] at h2
        obtain ⟨y, hy, h2⟩ := h2
        have e1 : evO E s.tm x = some y := by
          cases x with
          | tmp t => exact hs (t, y) (by simp only [List.map_cons, rtsOf]; rw [show look tm t = some y from hy]; simp)
          | const v => exact hy
          | global k => exact hy
          | func f => exact hy
        have e2 := fillO_mono (s := s) rest c r h (fun p hp => hs p (by rw [List.map_cons]; exact rts_tail hp))
        rw [h1, e1]
        simp only [Option.bind_some, h2, h3, h4]
        exact e2
      · cases h
    · cases h
theorem O.appM {α : Type} (f : α → PV) {Θ : St → Prop} {t e : TypeId} {y x : Operand} {i ie : TI} {b m sz s2 : Nat} {q r : List α} {z : AV} (hE : E.Ok) (ht : E.T t = some i) (hk : i.desc = .slc e) (he : E.T e = some ie) (hy : evO E tm y = some (.gl b m)) (hb : look bx b = some (.lst e sz (q.map f))) (hm : m = q.length) (hx : evO E tm x = some z)
    (hl : lstO bx z = some (s2, r.map f)) (hn : newest bx z) (hsz : s2 = sz) (hsz2 : sz = ie.size) (hz : Nat.beq ie.zero.length ie.size = true) (hpos : Nat.blt 0 ie.size = true) (hb1 : (q.length + r.length) * ie.bytes ≤ 140737488355328) (hb2 : q.length + r.length ≤ maxLen) (hd : Nat.blt d n = true)
    (h : Ops E.P E.g ops l ⟨n, (d, .gl b (q ++ r).length) :: tm, (b, .lst e sz ((q ++ r).map f)) :: bx⟩ Θ) : Ops E.P E.g ops (⟨some d, .call { callee := .builtin .append, args := #[y, x], argTypes := #[t, t] }, ty, pos, after, none⟩ :: l) ⟨n, tm, bx⟩ Θ := by
  refine O.append hE ht hk he hy hb (by simp [hm]) hx hl hn hsz hsz2 hz hpos (by simpa using hb1) (by simpa using hb2) List.map_append.symm hd ?_
  rw [List.length_map]
  exact h
theorem D.build {Θ : List Rec → St → Prop} {t : TypeId} {parts : Array (Nat × Operand)} {i : TI} {ls : List (Nat × Nat)} {zs cs : List AV} (hE : E.Ok) (ht : E.T t = some i) (hl : E.L t = some ls) (hz : pvsO i.zero = some zs) (hf : fillO E (fun j => ls[j]?) tm zs parts.toList = some cs) (hd : Nat.blt d n = true)
    (h : Dr E.P E.g ops l ⟨n, (d, .agg cs) :: tm, bx⟩ (fun rs => Θ (⟨rtsOf E tm (parts.toList.map (·.2)), [], [], some d, .agg cs, []⟩ :: rs))) : Dr E.P E.g ops (⟨some d, .build t parts, ty, pos, after, none⟩ :: l) ⟨n, tm, bx⟩ Θ :=
  D.of (rt := rtsOf E tm (parts.toList.map (·.2))) (rb := []) (rts_now _) none_met hd (fun s hs _ hd' => OpOk.build (s := s) (hE.t _ _ ht) (hE.l _ _ hl) (by rw [← pvsO_ok _ _ hz]; exact fillO_ok (n := s.n) (tm := s.tm) (bx := s.bx) _ _ _ (fillO_mono _ _ _ hf hs)) (fun t ht => by obtain rfl := Option.some.inj ht; exact hd')) h
end
/-- A slot: whether it is full, its salt, its data. -/
structure Sl where
  full : Bool
  salt : List Int
  data : List Int
abbrev slE (s : Sl) : PV := .agg [.bool s.full, bys s.salt, bys s.data]
abbrev slA (s : Sl) : AV := .agg [.pv (.bool s.full), .pv (bys s.salt), .pv (bys s.data)]
def Sok (s : Sl) : Prop := s.salt.length ≤ 80 ∧ s.data.length ≤ 20 ∧ (s.full = false → s.data = [])
theorem slotOf_ex {g : Nat → Option (List PV)} (r : Rw) : ∃ s : Sl, Sok s ∧ FnC (En Tryd.prog g) 23 [.agg [.pv (.int .i64 r.kd), .pv (.int .i64 r.a), .pv (.int .i64 r.b), .pv (.str r.s)]] (slA s) [] := by
  have hE := EnOk g
  have c1 := fnPick (g := g) (a := r.kd) (m := 3) (by omega) (by omega)
  have h3 : 0 ≤ r.kd % 3 ∧ r.kd % 3 < 3 := by omega
  suffices h : ∃ v, (∃ s : Sl, Sok s ∧ v = slA s) ∧ FnC (En Tryd.prog g) 23 [.agg [.pv (.int .i64 r.kd), .pv (.int .i64 r.a), .pv (.int .i64 r.b), .pv (.str r.s)]] v [] by
    obtain ⟨_, ⟨s, h1, rfl⟩, h2⟩ := h
    exact ⟨s, h1, h2⟩
  obtain ⟨M, hM⟩ : ∃ M : Int, (if (20 : Int) < (r.s.size : Int) then (20 : Int) else (r.s.size : Int)) = M := ⟨_, rfl⟩
  have hM0 : 0 ≤ M ∧ M ≤ r.s.size ∧ M ≤ 20 := by split at hM <;> omega
  obtain ⟨q, hq⟩ : ∃ q, btl (r.s.extract (0 : Int).toNat M.toNat) = q := ⟨_, rfl⟩
  have hql : q.length ≤ 20 := by rw [← hq, btl_len, ByteArray.size_extract]; omega
  have hsz : (r.s.extract (0 : Int).toNat M.toNat).size ≤ maxLen := by rw [ByteArray.size_extract]; unfold maxLen; omega
  obtain ⟨kd, ha⟩ : ∃ kd, r.kd = kd := ⟨_, rfl⟩
  rw [ha] at c1 h3 ⊢
  generalize kd % 3 = z at *
  refine FnC.ofEx Tryd.func23 rfl rfl rfl rfl ?_
  by_cases h0 : 0 < z
  ·
    repeat (first | refine Run.seq ?_ | refine Run.skip ?_ | refine Run.block ?_)
    refine Run.region ?_
    refine O.box 1 rfl (by first | rfl | exact cells_ones (by simp [ones_app, ones_ints, ones, AV.one, PV.one])) rfl rfl ?_
    refine O.alloc hE 2 T41 rfl rfl rfl ?_
    refine O.nil ?_
    try refine Run.keep [0, 1, 2, 3, 21] rfl rfl ?_
    repeat (first | refine Run.seq ?_ | refine Run.skip ?_ | refine Run.block ?_)
    refine Run.draw mixed rfl ?_
    refine D.field hE L49 rfl rfl rfl rfl ?_
    first | refine D.loadS hE T3 rfl rfl rfl (by rfl) rfl ?_ | refine D.loadE hE T3 rfl rfl (by rfl) rfl ?_ | refine D.load hE T3 rfl rfl rfl rfl ?_
    refine D.callE c1 rfl (by first | rfl | simp [closed, men3, mens2_app, mens2_ints, mens2, men2, men1, mens1_app, mens1_ints, mens1]) (by first | rfl | simp [d2, ds1_ints, ds1_app, ds1, d1, ds0_app, ds0_ints, ds0, d0]) rfl ?_
    first | refine D.cmp rfl rfl rfl (by first | exact decide_eq_true (by omega) | exact decide_eq_false (by omega)) rfl ?_ | refine D.cmp rfl rfl rfl rfl rfl ?_
    refine D.field hE L49 rfl rfl rfl rfl ?_
    first | refine D.loadS hE T3 rfl rfl rfl (by rfl) rfl ?_ | refine D.loadE hE T3 rfl rfl (by rfl) rfl ?_ | refine D.load hE T3 rfl rfl rfl rfl ?_
    refine D.conv hE T3 T5 rfl rfl rfl ?_
    refine D.field hE L49 rfl rfl rfl rfl ?_
    first | refine D.loadS hE T3 rfl rfl rfl (by rfl) rfl ?_ | refine D.loadE hE T3 rfl rfl (by rfl) rfl ?_ | refine D.load hE T3 rfl rfl rfl rfl ?_
    refine D.shr rfl rfl (by first | omega | (exact wrap_nn rfl _)) rfl ?_
    refine D.conv hE T3 T5 rfl rfl rfl ?_
    refine D.field hE L49 rfl rfl rfl rfl ?_
    first | refine D.loadS hE T3 rfl rfl rfl (by rfl) rfl ?_ | refine D.loadE hE T3 rfl rfl (by rfl) rfl ?_ | refine D.load hE T3 rfl rfl rfl rfl ?_
    refine D.conv hE T3 T5 rfl rfl rfl ?_
    refine D.litV hE T33 rfl T5 rfl rfl rfl rfl rfl rfl rfl ?_
    refine D.build hE T41 L41 rfl rfl rfl ?_
    refine D.alloc hE 3 T41 rfl rfl rfl ?_
    refine D.store hE T41 rfl rfl rfl rfl rfl rfl ?_
    refine Dr.nil ?_
    refine ⟨rfl, ?_⟩
    try refine Run.keep [0, 1, 2, 3, 21] rfl rfl ?_
    repeat (first | refine Run.seq ?_ | refine Run.skip ?_ | refine Run.block ?_)
    refine Run.region ?_
    refine O.field hE L41 rfl rfl rfl rfl ?_
    first | refine O.loadS hE T4 rfl rfl rfl (by rfl) rfl ?_ | refine O.loadE hE T4 rfl rfl (by rfl) rfl ?_ | refine O.load hE T4 rfl rfl rfl rfl ?_
    refine O.nil ?_
    try refine Run.keep [0, 1, 2, 3, 21] rfl rfl ?_
    repeat (first | refine Run.seq ?_ | refine Run.skip ?_)
    first | refine Run.condT rfl rfl ?_ | refine Run.condF rfl rfl ?_ | refine Run.condT rfl (by assumption) ?_ | refine Run.condF rfl (by assumption) ?_
    repeat (first | refine Run.seq ?_ | refine Run.skip ?_ | refine Run.block ?_)
    refine Run.region ?_
    refine O.field hE L49 rfl rfl rfl rfl ?_
    first | refine O.loadS hE T9 rfl rfl rfl (by rfl) rfl ?_ | refine O.loadE hE T9 rfl rfl (by rfl) rfl ?_ | refine O.load hE T9 rfl rfl rfl rfl ?_
    refine O.field hE L49 rfl rfl rfl rfl ?_
    first | refine O.loadS hE T9 rfl rfl rfl (by rfl) rfl ?_ | refine O.loadE hE T9 rfl rfl (by rfl) rfl ?_ | refine O.load hE T9 rfl rfl rfl rfl ?_
    refine O.lenStr hE T9 rfl rfl rfl ?_
    refine O.minI rfl rfl hM rfl ?_
    refine O.sliceS hE T9 rfl rfl rfl rfl (by omega) (by omega) (by omega) rfl rfl ?_
    refine O.bytesB hE T9 T33 rfl T5 rfl rfl hq hsz rfl ?_
    refine O.field hE L41 rfl rfl rfl rfl ?_
    refine O.store hE T33 rfl rfl rfl rfl rfl rfl ?_
    refine O.nil ?_
    try refine Run.keep [0, 1, 2, 3, 21] rfl rfl ?_
    repeat (first | refine Run.seq ?_ | refine Run.skip ?_ | refine Run.block ?_)
    refine Run.region ?_
    refine O.load hE T41 rfl rfl rfl rfl ?_
    refine O.store hE T41 rfl rfl rfl rfl rfl rfl ?_
    refine O.nil ?_
    try refine Run.keep [0, 1, 2, 3, 21] rfl rfl ?_
    refine Run.ret ?_
    exact ⟨slA ⟨true, [IntKind.u8.wrap r.a, IntKind.u8.wrap (r.a.fdiv (2 ^ min (Int.toNat 8) IntKind.i64.bits)), IntKind.u8.wrap r.b], q⟩, ⟨⟨true, [IntKind.u8.wrap r.a, IntKind.u8.wrap (r.a.fdiv (2 ^ min (Int.toNat 8) IntKind.i64.bits)), IntKind.u8.wrap r.b], q⟩, ⟨by simp, hql, fun h => by cases h⟩, rfl⟩, Ends.flat hE (.inr rfl) rfl rfl (AVle.of_eq rfl) rfl⟩
  ·
    repeat (first | refine Run.seq ?_ | refine Run.skip ?_ | refine Run.block ?_)
    refine Run.region ?_
    refine O.box 1 rfl (by first | rfl | exact cells_ones (by simp [ones_app, ones_ints, ones, AV.one, PV.one])) rfl rfl ?_
    refine O.alloc hE 2 T41 rfl rfl rfl ?_
    refine O.nil ?_
    try refine Run.keep [0, 1, 2, 3, 21] rfl rfl ?_
    repeat (first | refine Run.seq ?_ | refine Run.skip ?_ | refine Run.block ?_)
    refine Run.draw mixed rfl ?_
    refine D.field hE L49 rfl rfl rfl rfl ?_
    first | refine D.loadS hE T3 rfl rfl rfl (by rfl) rfl ?_ | refine D.loadE hE T3 rfl rfl (by rfl) rfl ?_ | refine D.load hE T3 rfl rfl rfl rfl ?_
    refine D.callE c1 rfl (by first | rfl | simp [closed, men3, mens2_app, mens2_ints, mens2, men2, men1, mens1_app, mens1_ints, mens1]) (by first | rfl | simp [d2, ds1_ints, ds1_app, ds1, d1, ds0_app, ds0_ints, ds0, d0]) rfl ?_
    first | refine D.cmp rfl rfl rfl (by first | exact decide_eq_true (by omega) | exact decide_eq_false (by omega)) rfl ?_ | refine D.cmp rfl rfl rfl rfl rfl ?_
    refine D.field hE L49 rfl rfl rfl rfl ?_
    first | refine D.loadS hE T3 rfl rfl rfl (by rfl) rfl ?_ | refine D.loadE hE T3 rfl rfl (by rfl) rfl ?_ | refine D.load hE T3 rfl rfl rfl rfl ?_
    refine D.conv hE T3 T5 rfl rfl rfl ?_
    refine D.field hE L49 rfl rfl rfl rfl ?_
    first | refine D.loadS hE T3 rfl rfl rfl (by rfl) rfl ?_ | refine D.loadE hE T3 rfl rfl (by rfl) rfl ?_ | refine D.load hE T3 rfl rfl rfl rfl ?_
    refine D.shr rfl rfl (by first | omega | (exact wrap_nn rfl _)) rfl ?_
    refine D.conv hE T3 T5 rfl rfl rfl ?_
    refine D.field hE L49 rfl rfl rfl rfl ?_
    first | refine D.loadS hE T3 rfl rfl rfl (by rfl) rfl ?_ | refine D.loadE hE T3 rfl rfl (by rfl) rfl ?_ | refine D.load hE T3 rfl rfl rfl rfl ?_
    refine D.conv hE T3 T5 rfl rfl rfl ?_
    refine D.litV hE T33 rfl T5 rfl rfl rfl rfl rfl rfl rfl ?_
    refine D.build hE T41 L41 rfl rfl rfl ?_
    refine D.alloc hE 3 T41 rfl rfl rfl ?_
    refine D.store hE T41 rfl rfl rfl rfl rfl rfl ?_
    refine Dr.nil ?_
    refine ⟨rfl, ?_⟩
    try refine Run.keep [0, 1, 2, 3, 21] rfl rfl ?_
    repeat (first | refine Run.seq ?_ | refine Run.skip ?_ | refine Run.block ?_)
    refine Run.region ?_
    refine O.field hE L41 rfl rfl rfl rfl ?_
    first | refine O.loadS hE T4 rfl rfl rfl (by rfl) rfl ?_ | refine O.loadE hE T4 rfl rfl (by rfl) rfl ?_ | refine O.load hE T4 rfl rfl rfl rfl ?_
    refine O.nil ?_
    try refine Run.keep [0, 1, 2, 3, 21] rfl rfl ?_
    repeat (first | refine Run.seq ?_ | refine Run.skip ?_)
    first | refine Run.condT rfl rfl ?_ | refine Run.condF rfl rfl ?_ | refine Run.condT rfl (by assumption) ?_ | refine Run.condF rfl (by assumption) ?_
    repeat (first | refine Run.seq ?_ | refine Run.skip ?_ | refine Run.block ?_)
    refine Run.region ?_
    refine O.load hE T41 rfl rfl rfl rfl ?_
    refine O.store hE T41 rfl rfl rfl rfl rfl rfl ?_
    refine O.nil ?_
    try refine Run.keep [0, 1, 2, 3, 21] rfl rfl ?_
    refine Run.ret ?_
    exact ⟨slA ⟨false, [IntKind.u8.wrap r.a, IntKind.u8.wrap (r.a.fdiv (2 ^ min (Int.toNat 8) IntKind.i64.bits)), IntKind.u8.wrap r.b], []⟩, ⟨⟨false, [IntKind.u8.wrap r.a, IntKind.u8.wrap (r.a.fdiv (2 ^ min (Int.toNat 8) IntKind.i64.bits)), IntKind.u8.wrap r.b], []⟩, ⟨by simp, by simp, fun _ => rfl⟩, rfl⟩, Ends.flat hE (.inr rfl) rfl rfl (AVle.aggs (.cons (AVle.of_eq rfl) (.cons (AVle.of_eq rfl) (.cons (AVle.nil 1) .nil)))) rfl⟩
theorem slotOfs {g : Nat → Option (List PV)} : ∃ P : Rw → Sl, ∀ r : Rw, Sok (P r) ∧ FnC (En Tryd.prog g) 23 [.agg [.pv (.int .i64 r.kd), .pv (.int .i64 r.a), .pv (.int .i64 r.b), .pv (.str r.s)]] (slA (P r)) [] :=
  ⟨fun r => Classical.choose (slotOf_ex (g := g) r), fun r => Classical.choose_spec (slotOf_ex (g := g) r)⟩
/-- The slots, as a list that may still grow. -/
theorem slotsOf_exB {g : Nat → Option (List PV)} {rs : List Rw} (hl : (rs.length : Int) ≤ 9223372036854775807) : ∃ (k : Nat) (ss : List Sl), k ≤ 4 ∧ ss.length = 2 ^ k ∧ (∀ s ∈ ss, Sok s) ∧ FnC (En Tryd.prog g) 12 [.pv (.lst 4 (rs.map rawE))] (.gl 68 ss.length) [(68, .lst 41 3 (ss.map slE))] := by
  have hE := EnOk g
  obtain ⟨P, hP⟩ := slotOfs (g := g)
  suffices h : ∃ v bs, (∃ (k : Nat) (ss : List Sl), k ≤ 4 ∧ ss.length = 2 ^ k ∧ (∀ s ∈ ss, Sok s) ∧ v = .gl 68 ss.length ∧ bs = [(68, .lst 41 3 (ss.map slE))]) ∧ FnC (En Tryd.prog g) 12 [.pv (.lst 4 (rs.map rawE))] v bs by
    obtain ⟨_, _, ⟨k, ss, h1, h2, h3, rfl, rfl⟩, h4⟩ := h
    exact ⟨k, ss, h1, h2, h3, h4⟩
  have hlen : (rs.map rawE).length = rs.length := by simp
  obtain ⟨M, hM⟩ : ∃ M : Int, (if (16 : Int) < (rs.length : Int) then (16 : Int) else (rs.length : Int)) = M := ⟨_, rfl⟩
  have hM0 : 0 ≤ M ∧ M ≤ rs.length ∧ M ≤ 16 := by split at hM <;> omega
  obtain ⟨Q, hQ⟩ : ∃ Q : Nat → Rw, ∀ i, Q i = (rs[i]?).getD ⟨0, 0, 0, ByteArray.empty⟩ := ⟨fun i => (rs[i]?).getD ⟨0, 0, 0, ByteArray.empty⟩, fun _ => rfl⟩
  refine FnC.ofExB Tryd.func12 rfl rfl rfl rfl ?_
  repeat (first | refine Run.seq ?_ | refine Run.skip ?_ | refine Run.block ?_)
  refine Run.region ?_
  refine O.assign rfl rfl ?_
  refine O.nil ?_
  try refine Run.keep [0, 2, 3, 4, 5, 6, 12, 15, 16, 17, 23] rfl rfl ?_
  repeat (first | refine Run.seq ?_ | refine Run.skip ?_ | refine Run.block ?_)
  refine Run.region ?_
  refine O.assign rfl rfl ?_
  refine O.nil ?_
  try refine Run.keep [0, 2, 3, 4, 5, 6, 12, 15, 16, 17, 23] rfl rfl ?_
  repeat (first | refine Run.seq ?_ | refine Run.skip ?_)
  refine Run.block ?_
  refine Run.loopInv (ι := Int) (fun n => 1 ≤ n ∧ n ≤ 16 ∧ (∃ j : Nat, j ≤ 4 ∧ n = 2 ^ j)) (fun n => ⟨35, [(0, .pv (.lst 4 (rs.map rawE))), (2, .pv .nil), (3, .pv (.int .i64 n))], []⟩) (fun n => (16 - n).toNat) 1 ⟨by omega, by omega, ⟨0, by omega, rfl⟩⟩ ?_ ?_
  ·
    refine SLe.eqv (by repeat (first | exact TmIn.nil | refine TmIn.cons rfl ?_)) (by repeat (first | exact BxIn.nil | refine BxIn.cons rfl ?_)) rfl
  rintro n ⟨hn0, hn1, ⟨j, hj4, hj⟩⟩ ih
  by_cases hlt : n * 2 ≤ M
  ·
    repeat (first | refine Run.seq ?_ | refine Run.skip ?_ | refine Run.block ?_)
    refine Run.region ?_
    refine O.move rfl rfl ?_
    first | refine O.ar rfl rfl rfl (by exact wrap_i64 (by omega) (by omega)) rfl ?_ | refine O.ar rfl rfl rfl rfl rfl ?_
    refine O.move rfl rfl ?_
    first | refine O.lenN hE T22 rfl rfl rfl (by first | exact newest_pv | exact newest_gl rfl rfl | trivial) lenC rfl ?_ | refine O.lenLst hE T22 rfl rfl rfl (by first | exact newest_pv | exact newest_gl rfl rfl | trivial) rfl ?_
    refine O.minI rfl rfl hM rfl ?_
    first | refine O.cmp rfl rfl rfl (by first | exact decide_eq_true (by omega) | exact decide_eq_false (by omega)) rfl ?_ | refine O.cmp rfl rfl rfl rfl rfl ?_
    refine O.nil ?_
    try refine Run.keep [0, 2, 3, 4, 5, 6, 12, 15, 16, 17, 23] rfl rfl ?_
    repeat (first | refine Run.seq ?_ | refine Run.skip ?_)
    first | refine Run.condT rfl rfl ?_ | refine Run.condF rfl rfl ?_ | refine Run.condT rfl (by assumption) ?_ | refine Run.condF rfl (by assumption) ?_
    repeat (first | refine Run.seq ?_ | refine Run.skip ?_ | refine Run.block ?_)
    refine Run.region ?_
    refine O.move rfl rfl ?_
    first | refine O.ar rfl rfl rfl (by exact wrap_i64 (by omega) (by omega)) rfl ?_ | refine O.ar rfl rfl rfl rfl rfl ?_
    refine O.assign rfl rfl ?_
    refine O.nil ?_
    try refine Run.keep [0, 2, 3, 4, 5, 6, 12, 15, 16, 17, 23] rfl rfl ?_
    have hjj : j < 4 := by
      rcases Nat.lt_or_ge j 4 with h | h
      · exact h
      · obtain rfl : j = 4 := by omega
        omega
    exact ih (n * 2) _ (by refine SLe.eqv (by repeat (first | exact TmIn.nil | refine TmIn.cons rfl ?_)) (by repeat (first | exact BxIn.nil | refine BxIn.cons rfl ?_)) rfl) ⟨by omega, by omega, ⟨j + 1, by omega, by rw [hj, Int.pow_succ]⟩⟩ (by omega)
  repeat (first | refine Run.seq ?_ | refine Run.skip ?_ | refine Run.block ?_)
  refine Run.region ?_
  refine O.move rfl rfl ?_
  first | refine O.ar rfl rfl rfl (by exact wrap_i64 (by omega) (by omega)) rfl ?_ | refine O.ar rfl rfl rfl rfl rfl ?_
  refine O.move rfl rfl ?_
  first | refine O.lenN hE T22 rfl rfl rfl (by first | exact newest_pv | exact newest_gl rfl rfl | trivial) lenC rfl ?_ | refine O.lenLst hE T22 rfl rfl rfl (by first | exact newest_pv | exact newest_gl rfl rfl | trivial) rfl ?_
  refine O.minI rfl rfl hM rfl ?_
  first | refine O.cmp rfl rfl rfl (by first | exact decide_eq_true (by omega) | exact decide_eq_false (by omega)) rfl ?_ | refine O.cmp rfl rfl rfl rfl rfl ?_
  refine O.nil ?_
  try refine Run.keep [0, 2, 3, 4, 5, 6, 12, 15, 16, 17, 23] rfl rfl ?_
  repeat (first | refine Run.seq ?_ | refine Run.skip ?_)
  first | refine Run.condT rfl rfl ?_ | refine Run.condF rfl rfl ?_ | refine Run.condT rfl (by assumption) ?_ | refine Run.condF rfl (by assumption) ?_
  refine Run.exit ?_
  repeat (first | refine thenR_exit ?_ | refine roundR_exit ?_ | refine blockR_exit ?_ | refine blockR_pass rfl ?_)
  repeat (first | refine Run.seq ?_ | refine Run.skip ?_ | refine Run.block ?_)
  refine Run.region ?_
  refine O.assign rfl rfl ?_
  refine O.nil ?_
  try refine Run.keep [0, 2, 3, 4, 5, 6, 12, 15, 16, 17, 23] rfl rfl ?_
  refine Run.pre (SLe.nilBox (t := 4) (b := 68) (e := 41) (sz := 3) rfl rfl rfl rfl) ?_
  repeat (first | refine Run.seq ?_ | refine Run.skip ?_ | refine Run.block ?_)
  refine Run.region ?_
  refine O.move rfl rfl ?_
  refine O.move rfl rfl ?_
  refine O.nil ?_
  try refine Run.keep [0, 2, 3, 4, 5, 6, 12, 15, 16, 17, 23] rfl rfl ?_
  repeat (first | refine Run.seq ?_ | refine Run.skip ?_)
  refine Run.block ?_
  refine Run.loopInv (ι := Nat) (fun j => (j : Int) ≤ n)
    (fun j => ⟨35, [(0, .pv (.lst 4 (rs.map rawE))), (4, .gl 68 ((List.range j).map fun i => P (Q i)).length), (15, .pv (.int .i64 n)), (16, .pv (.int .i64 j))], [(68, .lst 41 3 (((List.range j).map fun i => P (Q i)).map slE))]⟩) (fun j => n.toNat - j) 0 (by omega) ?_ ?_
  ·
    refine SLe.eqv (by repeat (first | exact TmIn.nil | refine TmIn.cons rfl ?_)) (by repeat (first | exact BxIn.nil | refine BxIn.cons rfl ?_)) rfl
  rintro i hi ih2
  by_cases hin : (i : Int) < n
  ·
    have c1 := (hP (Q i)).2
    have htk : (List.range (i + 1)).map (fun i => P (Q i)) = (List.range i).map (fun i => P (Q i)) ++ [P (Q i)] := by rw [List.range_succ, List.map_append]; rfl
    by_cases hil : i < rs.length
    ·
      have hat : (rs.map rawE)[(i : Int).toNat]? = some (rawE (Q i)) := by
        rw [Int.toNat_natCast, List.getElem?_map, hQ, List.getElem?_eq_getElem hil]; rfl
      repeat (first | refine Run.seq ?_ | refine Run.skip ?_ | refine Run.block ?_)
      refine Run.region ?_
      first | refine O.cmp rfl rfl rfl (by first | exact decide_eq_true (by omega) | exact decide_eq_false (by omega)) rfl ?_ | refine O.cmp rfl rfl rfl rfl rfl ?_
      refine O.nil ?_
      try refine Run.keep [0, 2, 3, 4, 5, 6, 12, 15, 16, 17, 23] rfl rfl ?_
      repeat (first | refine Run.seq ?_ | refine Run.skip ?_)
      first | refine Run.condT rfl rfl ?_ | refine Run.condF rfl rfl ?_ | refine Run.condT rfl (by assumption) ?_ | refine Run.condF rfl (by assumption) ?_
      repeat (first | refine Run.seq ?_ | refine Run.skip ?_ | refine Run.block ?_)
      refine Run.region ?_
      refine O.move rfl rfl ?_
      refine O.assign rfl rfl ?_
      refine O.nil ?_
      try refine Run.keep [0, 2, 3, 4, 5, 6, 12, 15, 16, 17, 23] rfl rfl ?_
      repeat (first | refine Run.seq ?_ | refine Run.skip ?_ | refine Run.block ?_)
      refine Run.region ?_
      refine O.build hE T49 L49 rfl rfl rfl ?_
      refine O.alloc hE 6 T49 rfl rfl rfl ?_
      refine O.store hE T49 rfl rfl rfl rfl rfl rfl ?_
      refine O.nil ?_
      try refine Run.keep [0, 2, 3, 4, 5, 6, 12, 15, 16, 17, 23] rfl rfl ?_
      repeat (first | refine Run.seq ?_ | refine Run.skip ?_ | refine Run.block ?_)
      refine Run.region ?_
      refine O.move rfl rfl ?_
      refine O.move rfl rfl ?_
      first | refine O.lenN hE T22 rfl rfl rfl (by first | exact newest_pv | exact newest_gl rfl rfl | trivial) lenC rfl ?_ | refine O.lenLst hE T22 rfl rfl rfl (by first | exact newest_pv | exact newest_gl rfl rfl | trivial) rfl ?_
      first | refine O.cmp rfl rfl rfl (by first | exact decide_eq_true (by omega) | exact decide_eq_false (by omega)) rfl ?_ | refine O.cmp rfl rfl rfl rfl rfl ?_
      refine O.nil ?_
      try refine Run.keep [0, 2, 3, 4, 5, 6, 12, 15, 16, 17, 23] rfl rfl ?_
      repeat (first | refine Run.seq ?_ | refine Run.skip ?_)
      first | refine Run.condT rfl rfl ?_ | refine Run.condF rfl rfl ?_ | refine Run.condT rfl (by assumption) ?_ | refine Run.condF rfl (by assumption) ?_
      repeat (first | refine Run.seq ?_ | refine Run.skip ?_ | refine Run.block ?_)
      refine Run.region ?_
      refine O.move rfl rfl ?_
      refine O.move rfl rfl ?_
      refine O.index hE T22 rfl T49 rfl rfl newest_pv rfl (by omega) hat rfl rfl rfl ?_
      refine O.load hE T49 rfl rfl rfl rfl ?_
      refine O.store hE T49 rfl rfl rfl rfl rfl rfl ?_
      refine O.nil ?_
      try refine Run.keep [0, 2, 3, 4, 5, 6, 12, 15, 16, 17, 23] rfl rfl ?_
      repeat (first | refine Run.seq ?_ | refine Run.skip ?_ | refine Run.block ?_)
      refine Run.region ?_
      refine O.move rfl rfl ?_
      refine O.load hE T49 rfl rfl rfl rfl ?_
      refine O.callE c1 rfl (by first | rfl | simp [closed, men3, mens2_app, mens2_ints, mens2, men2, men1, mens1_app, mens1_ints, mens1]) (by first | rfl | simp [d2, ds1_ints, ds1_app, ds1, d1, ds0_app, ds0_ints, ds0, d0]) rfl ?_
      refine O.litV hE T23 rfl T41 rfl rfl rfl rfl rfl rfl rfl ?_
      refine O.appM slE (r := [P (Q i)]) hE T23 rfl T41 rfl rfl rfl rfl rfl newest_pv rfl rfl rfl rfl (by simp; omega) (by simp [maxLen]; omega) rfl ?_
      refine O.assign rfl rfl ?_
      refine O.nil ?_
      try refine Run.keep [0, 2, 3, 4, 5, 6, 12, 15, 16, 17, 23] rfl rfl ?_
      repeat (first | refine Run.seq ?_ | refine Run.skip ?_ | refine Run.block ?_)
      refine Run.region ?_
      first | refine O.ar rfl rfl rfl (by exact wrap_i64 (by omega) (by omega)) rfl ?_ | refine O.ar rfl rfl rfl rfl rfl ?_
      refine O.move rfl rfl ?_
      refine O.nil ?_
      try refine Run.keep [0, 2, 3, 4, 5, 6, 12, 15, 16, 17, 23] rfl rfl ?_
      refine ih2 (i + 1) _ ?_ (by omega) (by omega)
      rw [htk]
      exact SLe.drop (by repeat (first | exact TmIn.nil | refine TmIn.cons rfl ?_)) (by repeat (first | exact BxIn.nil | refine BxIn.cons rfl ?_)) rfl rfl
    ·
      have hz : Q i = ⟨0, 0, 0, ByteArray.empty⟩ := by rw [hQ, List.getElem?_eq_none (by omega)]; rfl
      obtain ⟨S, hS⟩ : ∃ S, P (Q i) = S := ⟨_, rfl⟩
      rw [hS] at c1
      rw [hz] at c1
      repeat (first | refine Run.seq ?_ | refine Run.skip ?_ | refine Run.block ?_)
      refine Run.region ?_
      first | refine O.cmp rfl rfl rfl (by first | exact decide_eq_true (by omega) | exact decide_eq_false (by omega)) rfl ?_ | refine O.cmp rfl rfl rfl rfl rfl ?_
      refine O.nil ?_
      try refine Run.keep [0, 2, 3, 4, 5, 6, 12, 15, 16, 17, 23] rfl rfl ?_
      repeat (first | refine Run.seq ?_ | refine Run.skip ?_)
      first | refine Run.condT rfl rfl ?_ | refine Run.condF rfl rfl ?_ | refine Run.condT rfl (by assumption) ?_ | refine Run.condF rfl (by assumption) ?_
      repeat (first | refine Run.seq ?_ | refine Run.skip ?_ | refine Run.block ?_)
      refine Run.region ?_
      refine O.move rfl rfl ?_
      refine O.assign rfl rfl ?_
      refine O.nil ?_
      try refine Run.keep [0, 2, 3, 4, 5, 6, 12, 15, 16, 17, 23] rfl rfl ?_
      repeat (first | refine Run.seq ?_ | refine Run.skip ?_ | refine Run.block ?_)
      refine Run.region ?_
      refine O.build hE T49 L49 rfl rfl rfl ?_
      refine O.alloc hE 6 T49 rfl rfl rfl ?_
      refine O.store hE T49 rfl rfl rfl rfl rfl rfl ?_
      refine O.nil ?_
      try refine Run.keep [0, 2, 3, 4, 5, 6, 12, 15, 16, 17, 23] rfl rfl ?_
      repeat (first | refine Run.seq ?_ | refine Run.skip ?_ | refine Run.block ?_)
      refine Run.region ?_
      refine O.move rfl rfl ?_
      refine O.move rfl rfl ?_
      first | refine O.lenN hE T22 rfl rfl rfl (by first | exact newest_pv | exact newest_gl rfl rfl | trivial) lenC rfl ?_ | refine O.lenLst hE T22 rfl rfl rfl (by first | exact newest_pv | exact newest_gl rfl rfl | trivial) rfl ?_
      first | refine O.cmp rfl rfl rfl (by first | exact decide_eq_true (by omega) | exact decide_eq_false (by omega)) rfl ?_ | refine O.cmp rfl rfl rfl rfl rfl ?_
      refine O.nil ?_
      try refine Run.keep [0, 2, 3, 4, 5, 6, 12, 15, 16, 17, 23] rfl rfl ?_
      repeat (first | refine Run.seq ?_ | refine Run.skip ?_)
      first | refine Run.condT rfl rfl ?_ | refine Run.condF rfl rfl ?_ | refine Run.condT rfl (by assumption) ?_ | refine Run.condF rfl (by assumption) ?_
      repeat (first | refine Run.seq ?_ | refine Run.skip ?_ | refine Run.block ?_)
      refine Run.region ?_
      refine O.move rfl rfl ?_
      refine O.load hE T49 rfl rfl rfl rfl ?_
      refine O.callE c1 rfl (by first | rfl | simp [closed, men3, mens2_app, mens2_ints, mens2, men2, men1, mens1_app, mens1_ints, mens1]) (by first | rfl | simp [d2, ds1_ints, ds1_app, ds1, d1, ds0_app, ds0_ints, ds0, d0]) rfl ?_
      refine O.litV hE T23 rfl T41 rfl rfl rfl rfl rfl rfl rfl ?_
      refine O.appM slE (r := [S]) hE T23 rfl T41 rfl rfl rfl rfl rfl newest_pv rfl rfl rfl rfl (by simp; omega) (by simp [maxLen]; omega) rfl ?_
      refine O.assign rfl rfl ?_
      refine O.nil ?_
      try refine Run.keep [0, 2, 3, 4, 5, 6, 12, 15, 16, 17, 23] rfl rfl ?_
      repeat (first | refine Run.seq ?_ | refine Run.skip ?_ | refine Run.block ?_)
      refine Run.region ?_
      first | refine O.ar rfl rfl rfl (by exact wrap_i64 (by omega) (by omega)) rfl ?_ | refine O.ar rfl rfl rfl rfl rfl ?_
      refine O.move rfl rfl ?_
      refine O.nil ?_
      try refine Run.keep [0, 2, 3, 4, 5, 6, 12, 15, 16, 17, 23] rfl rfl ?_
      refine ih2 (i + 1) _ ?_ (by omega) (by omega)
      rw [htk, hS]
      exact SLe.drop (by repeat (first | exact TmIn.nil | refine TmIn.cons rfl ?_)) (by repeat (first | exact BxIn.nil | refine BxIn.cons rfl ?_)) rfl rfl
  obtain rfl : (i : Int) = n := by omega
  repeat (first | refine Run.seq ?_ | refine Run.skip ?_ | refine Run.block ?_)
  refine Run.region ?_
  first | refine O.cmp rfl rfl rfl (by first | exact decide_eq_true (by omega) | exact decide_eq_false (by omega)) rfl ?_ | refine O.cmp rfl rfl rfl rfl rfl ?_
  refine O.nil ?_
  try refine Run.keep [0, 2, 3, 4, 5, 6, 12, 15, 16, 17, 23] rfl rfl ?_
  repeat (first | refine Run.seq ?_ | refine Run.skip ?_)
  first | refine Run.condT rfl rfl ?_ | refine Run.condF rfl rfl ?_ | refine Run.condT rfl (by assumption) ?_ | refine Run.condF rfl (by assumption) ?_
  refine Run.exit ?_
  repeat (first | refine thenR_exit ?_ | refine roundR_exit ?_ | refine blockR_exit ?_ | refine blockR_pass rfl ?_)
  repeat (first | refine Run.seq ?_ | refine Run.skip ?_ | refine Run.block ?_)
  refine Run.region ?_
  refine O.move rfl rfl ?_
  refine O.assign rfl rfl ?_
  refine O.nil ?_
  try refine Run.keep [0, 2, 3, 4, 5, 6, 12, 15, 16, 17, 23] rfl rfl ?_
  refine Run.ret ?_
  refine ⟨_, _, ⟨j, (List.range i).map fun i => P (Q i), hj4, ?_, ?_, rfl, rfl⟩, Ends.of hE (.inr rfl) rfl rfl (SLe.drop (by repeat (first | exact TmIn.nil | refine TmIn.cons rfl ?_)) (by repeat (first | exact BxIn.nil | refine BxIn.cons rfl ?_)) rfl rfl)⟩
  ·
    have : ((2 ^ j : Nat) : Int) = 2 ^ j := by simp
    simp; omega
  ·
    intro s hs
    obtain ⟨i, _, rfl⟩ := List.mem_map.1 hs
    exact (hP _).1
theorem slotsOf_ex {g : Nat → Option (List PV)} {rs : List Rw} (hl : (rs.length : Int) ≤ 9223372036854775807) : ∃ (k : Nat) (ss : List Sl), k ≤ 4 ∧ ss.length = 2 ^ k ∧ (∀ s ∈ ss, Sok s) ∧ FnC (En Tryd.prog g) 12 [.pv (.lst 4 (rs.map rawE))] (.pv (.lst 3 (ss.map slE))) [] := by
  obtain ⟨k, ss, h1, h2, h3, h4⟩ := slotsOf_exB (g := g) hl
  exact ⟨k, ss, h1, h2, h3, h4.to (SLe.res0 (AVle.lst _ _ _ (lstOf_gl rfl (by simp))) rfl)⟩
end Go.Proofs.YtokjeodlcilfpaaDoor.Vm
