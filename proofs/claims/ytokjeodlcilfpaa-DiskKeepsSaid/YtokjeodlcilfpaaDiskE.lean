/- Disks that raw things make. Conditions: none. -/
import Derived.Test.YtokjeodlcilfpaaDiskD
namespace Go.Proofs.Ytokjeodlcilfpaa.Vm
open Go Go.RowKit
set_option linter.unusedVariables false
set_option linter.unusedSimpArgs false
attribute [local irreducible] Ops Dr Run
section
variable {E : Env} {n : Nat} {tm : List (Nat × AV)} {bx : List (Nat × Box)} {ops : Array Oper} {l : List Oper} {d : Tmp} {ty : TypeId} {pos : String} {after : Array Edge}
theorem D.buildArr {Θ : List Rec → St → Prop} {t e : TypeId} {len : Nat} {parts : Array (Nat × Operand)} {i ie : TI} {zs cs : List AV} (hE : E.Ok) (ht : E.T t = some i) (hk : i.desc = .arr len e) (he : E.T e = some ie) (hz : pvsO i.zero = some zs) (hf : fillO E (fun j => some (j * ie.size, ie.size)) tm zs parts.toList = some cs) (hd : Nat.blt d n = true)
    (h : Dr E.P E.g ops l ⟨n, (d, .agg cs) :: tm, bx⟩ (fun rs => Θ (⟨rtsOf E tm (parts.toList.map (·.2)), [], [], some d, .agg cs, []⟩ :: rs))) : Dr E.P E.g ops (⟨some d, .build t parts, ty, pos, after, none⟩ :: l) ⟨n, tm, bx⟩ Θ :=
  D.of (rt := rtsOf E tm (parts.toList.map (·.2))) (rb := []) (rts_now _) none_met hd (fun s hs _ hd' => OpOk.buildArr (s := s) (hE.t _ _ ht) hk (hE.t _ _ he) (by rw [← pvsO_ok _ _ hz]; exact fillO_ok (n := s.n) (tm := s.tm) (bx := s.bx) _ _ _ (fillO_mono _ _ _ hf hs)) (fun t ht => by obtain rfl := Option.some.inj ht; exact hd')) h
end
variable {g : Nat → Option (List PV)}
abbrev zer : List Int := List.replicate 32 0
theorem fnDNew {n : Nat} (h1 : 1 ≤ n) (h2 : n ≤ 400) : FnC (En Try.prog g) 16 [.pv (.int .i64 (n : Int))] (.tup [dskA (List.replicate n zer) [], .pv (.int .i64 0)]) [] := by
  have hE := EnOk g
  unfold dskA
  rw [List.map_replicate]
  refine FnC.of Try.func16 rfl rfl rfl rfl ?_
  repeat (first | refine Run.seq ?_ | refine Run.skip ?_ | refine Run.block ?_)
  refine Run.region ?_
  refine O.alloc hE 2 T26 rfl rfl rfl ?_
  refine O.assign rfl rfl ?_
  refine O.nil ?_
  try refine Run.keep [0, 2, 3, 9] rfl rfl ?_
  repeat (first | refine Run.seq ?_ | refine Run.skip ?_ | refine Run.block ?_)
  refine Run.region ?_
  refine O.move rfl rfl ?_
  first | refine O.cmp rfl rfl rfl (by first | exact decide_eq_true (by omega) | exact decide_eq_false (by omega)) rfl ?_ | refine O.cmp rfl rfl rfl rfl rfl ?_
  refine O.move rfl rfl ?_
  first | (refine O.yes rfl rfl (by first | rfl | assumption) ?_; refine O.move rfl rfl ?_) | refine O.no rfl rfl rfl rfl ?_
  first | (refine O.yes rfl rfl (by first | rfl | assumption) ?_; first | refine O.cmp rfl rfl rfl (by first | exact decide_eq_true (by omega) | exact decide_eq_false (by omega)) rfl ?_ | refine O.cmp rfl rfl rfl rfl rfl ?_) | refine O.no rfl rfl rfl rfl ?_
  refine O.pick rfl rfl rfl rfl rfl ?_
  refine O.nil ?_
  try refine Run.keep [0, 2, 3, 9] rfl rfl ?_
  repeat (first | refine Run.seq ?_ | refine Run.skip ?_)
  first | refine Run.condT rfl rfl ?_ | refine Run.condF rfl rfl ?_ | refine Run.condT rfl (by assumption) ?_ | refine Run.condF rfl (by assumption) ?_
  repeat (first | refine Run.seq ?_ | refine Run.skip ?_ | refine Run.block ?_)
  refine Run.region ?_
  refine O.move rfl rfl ?_
  refine O.make (m := n) (el := secE zer) hE 12 T23 rfl T30 rfl rfl rfl (fun z hz => by rw [(List.mem_replicate.1 hz).2]; rfl) rfl (by decide) (by dsimp only; omega) (by unfold maxLen; omega) rfl rfl ?_
  refine O.build hE T26 L26 rfl rfl rfl ?_
  refine O.store hE T26 rfl rfl rfl rfl rfl rfl ?_
  refine O.assign rfl rfl ?_
  refine O.nil ?_
  try refine Run.keep [0, 2, 3, 9] rfl rfl ?_
  refine Run.ret ?_
  exact Ends.of hE (.inr rfl) rfl rfl (SLe.res0 (AVle.tups (.cons (AVle.aggs (.cons (AVle.lst _ _ _ (lstOf_glV rfl (by simp))) (.cons (AVle.nil 33) .nil))) (.cons (AVle.of_eq rfl) .nil))) rfl)
/-- What one raw thing does to a disk. -/
def stp (p : List (List Int) × List Pt) (r : Rw) : List (List Int) × List Pt :=
  if r.kd % 5 = 0 then (fl (fun _ => true) p.1 p.2 p.2.length, []) else (p.1, p.2 ++ [⟨((r.a % 6).toNat : Int), [IntKind.u8.wrap r.b, 1, 0, 0, 0, 0, 0, 0, 0, 0, 0, 0, 0, 0, 0, 0, 0, 0, 0, 0, 0, 0, 0, 0, 0, 0, 0, 0, 0, 0, 0, 0]⟩])
def dsk (R : List Rw) : Nat → List (List Int) × List Pt
  | 0 => (List.replicate 6 zer, [])
  | j + 1 => match R[j]? with
    | some r => stp (dsk R j) r
    | none => dsk R j
theorem DOk.synced {Ls : List (List Int)} {Ws : List Pt} (h : DOk Ls Ws) (P : Nat → Bool) (j : Nat) : DOk (fl P Ls Ws j) [] :=
  ⟨by rw [fl_len]; exact h.l1, by rw [fl_len]; exact h.l4, fl_sec h P j, by simp, fun w hw => by simp at hw⟩
theorem DOk.written {Ls : List (List Int)} {Ws : List Pt} (h : DOk Ls Ws) (hW : Ws.length < 60) {i : Nat} (hi : i < Ls.length) {S : List Int} (hS : S.length = 32) : DOk Ls (Ws ++ [⟨i, S⟩]) :=
  ⟨h.l1, h.l4, h.s, by simp; omega, fun w hw => by
    rcases List.mem_append.1 hw with hw | hw
    · exact h.w w hw
    · rw [List.mem_singleton.1 hw]; exact ⟨by simp, by simpa using hi, hS⟩⟩
theorem dsk_ok (R : List Rw) : ∀ j, j ≤ 30 → DOk (dsk R j).1 (dsk R j).2 ∧ (dsk R j).1.length = 6 ∧ (dsk R j).2.length ≤ j
  | 0, _ => ⟨⟨by simp [dsk], by simp [dsk], fun S hS => by rw [(List.mem_replicate.1 hS).2]; simp, by simp [dsk], fun w hw => by simp [dsk] at hw⟩, by simp [dsk], by simp [dsk]⟩
  | j + 1, hj => by
    obtain ⟨h1, h2, h3⟩ := dsk_ok R j (by omega)
    rw [dsk]
    split
    · rename_i r hr
      unfold stp
      split
      · exact ⟨h1.synced _ _, by rw [fl_len]; exact h2, by simp⟩
      · exact ⟨h1.written (by omega) (by omega) rfl, h2, by simp; omega⟩
    · exact ⟨h1, h2, by omega⟩
theorem fnWritten {rs : List Rw} (hl : (rs.length : Int) ≤ 9223372036854775807) : ∃ Ls Ws, DOk Ls Ws ∧ Ls.length = 6 ∧ Ws.length ≤ 30 ∧ FnC (En Try.prog g) 6 [.pv (.lst 4 (rs.map rawE)), .pv (.int .i64 6)] (.tup [dskA Ls Ws, .pv (.bool true)]) [] := by
  have hE := EnOk g
  have c1 := fnDNew (g := g) (n := 6) (by omega) (by omega)
  have c2 := fnSome (g := g) (rs := rs) (m := 30) (by omega) hl
  rw [show (30 : Int).toNat = 30 from rfl] at c2
  have hl5 : (rs.take 30).length ≤ 30 := by rw [List.length_take]; omega
  generalize rs.take 30 = R at *
  obtain ⟨o1, o2, o3⟩ := dsk_ok R R.length hl5
  refine ⟨(dsk R R.length).1, (dsk R R.length).2, o1, o2, by omega, ?_⟩
  refine FnC.of Try.func6 rfl rfl rfl rfl ?_
  repeat (first | refine Run.seq ?_ | refine Run.skip ?_ | refine Run.block ?_)
  refine Run.region ?_
  refine O.alloc hE 4 T26 rfl rfl rfl ?_
  refine O.assign rfl rfl ?_
  refine O.nil ?_
  try refine Run.keep [0, 1, 4, 5, 6, 7, 8, 10, 19, 20, 21, 22, 26, 30] rfl rfl ?_
  repeat (first | refine Run.seq ?_ | refine Run.skip ?_ | refine Run.block ?_)
  refine Run.region ?_
  refine O.move rfl rfl ?_
  refine O.callE c1 rfl (by first | rfl | simp [closed, men3, mens2_app, mens2_ints, mens2, men2, men1, mens1_app, mens1_ints, mens1]) (by first | rfl | simp [d2, ds1_ints, ds1_app, ds1, d1, ds0_app, ds0_ints, ds0, d0]) rfl ?_
  refine O.move rfl rfl ?_
  refine O.extract rfl rfl rfl ?_
  refine O.extract rfl rfl rfl ?_
  refine O.alloc hE 6 T26 rfl rfl rfl ?_
  refine O.store hE T26 rfl rfl rfl rfl rfl rfl ?_
  refine O.assign rfl rfl ?_
  refine O.nil ?_
  try refine Run.keep [0, 1, 4, 5, 6, 7, 8, 10, 19, 20, 21, 22, 26, 30] rfl rfl ?_
  repeat (first | refine Run.seq ?_ | refine Run.skip ?_ | refine Run.block ?_)
  refine Run.region ?_
  refine O.move rfl rfl ?_
  first | refine O.cmp rfl rfl rfl (by first | exact decide_eq_true (by omega) | exact decide_eq_false (by omega)) rfl ?_ | refine O.cmp rfl rfl rfl rfl rfl ?_
  refine O.assign rfl rfl ?_
  refine O.nil ?_
  try refine Run.keep [0, 1, 4, 5, 6, 7, 8, 10, 19, 20, 21, 22, 26, 30] rfl rfl ?_
  repeat (first | refine Run.seq ?_ | refine Run.skip ?_ | refine Run.block ?_)
  refine Run.region ?_
  refine O.move rfl rfl ?_
  refine O.callE c2 rfl (by first | rfl | simp [closed, men3, mens2_app, mens2_ints, mens2, men2, men1, mens1_app, mens1_ints, mens1]) (by first | rfl | simp [d2, ds1_ints, ds1_app, ds1, d1, ds0_app, ds0_ints, ds0, d0]) rfl ?_
  first | refine O.lenN hE T22 rfl rfl rfl (by first | exact newest_pv | exact newest_gl rfl rfl | trivial) lenC rfl ?_ | refine O.lenLst hE T22 rfl rfl rfl (by first | exact newest_pv | exact newest_gl rfl rfl | trivial) rfl ?_
  refine O.move rfl rfl ?_
  refine O.nil ?_
  try refine Run.keep [0, 1, 4, 5, 6, 7, 8, 10, 19, 20, 21, 22, 26, 30] rfl rfl ?_
  repeat (first | refine Run.seq ?_ | refine Run.skip ?_)
  refine Run.block ?_
  refine Run.loopInv (ι := Nat) (fun j => j ≤ R.length) (fun j => ⟨57, [(1, .pv (.int .i64 6)), (4, .ptr 4 0), (6, .ptr 6 0), (7, .pv (.int .i64 0)), (8, .pv (.bool true)), (19, .pv (.lst 4 (R.map rawE))), (20, .pv (.int .i64 R.length)), (21, .pv (.int .i64 (j : Int)))], [(6, .var [.pv (.lst 32 ((dsk R j).1.map secE)), .pv (.lst 33 ((dsk R j).2.map putE))]), (4, .var [.pv .nil, .pv .nil])]⟩) (fun j => R.length - j) 0 (Nat.zero_le _) ?_ ?_
  ·
    refine SLe.eqv (by repeat (first | exact TmIn.nil | refine TmIn.cons rfl ?_)) (by repeat (first | exact BxIn.nil | refine BxIn.cons rfl ?_)) rfl
  rintro j hj ih
  by_cases hlt : j < R.length
  ·
    obtain ⟨r, hv⟩ : ∃ r, R[j]? = some r := ⟨_, List.getElem?_eq_getElem hlt⟩
    have hat : (R.map rawE)[(j : Int).toNat]? = some (rawE r) := by rw [Int.toNat_natCast, List.getElem?_map, hv]; rfl
    have hstep : dsk R (j + 1) = stp (dsk R j) r := by rw [dsk, hv]
    obtain ⟨d1, d2, d3⟩ := dsk_ok R j (by omega)
    generalize dsk R j = p at *
    obtain ⟨Ls, Ws⟩ := p
    dsimp only at d1 d2 d3
    have ca := fnPick (g := g) (a := r.kd) (m := 5) (by omega) (by omega)
    have cb := fnPick (g := g) (a := r.a) (m := 6) (by omega) (by omega)
    have hr6 : r.a % 6 = ((r.a % 6).toNat : Int) := by omega
    have hr6' : (r.a % 6).toNat < Ls.length := by omega
    rw [hr6] at cb
    unfold stp at hstep
    dsimp only at hstep
    generalize hI : (r.a % 6).toNat = I at *
    clear hI hr6
    obtain ⟨rk, ra, rb, rt⟩ := r
    dsimp only at ca cb hstep
    generalize hK : rk % 5 = K at *
    clear hK
    by_cases hk : K = 0
    ·
      rw [if_pos hk] at hstep
      have cs := fnDSync (g := g) d1
      repeat (first | refine Run.seq ?_ | refine Run.skip ?_ | refine Run.block ?_)
      refine Run.region ?_
      first | refine O.cmp rfl rfl rfl (by first | exact decide_eq_true (by omega) | exact decide_eq_false (by omega)) rfl ?_ | refine O.cmp rfl rfl rfl rfl rfl ?_
      refine O.nil ?_
      try refine Run.keep [0, 1, 4, 5, 6, 7, 8, 10, 19, 20, 21, 22, 26, 30] rfl rfl ?_
      repeat (first | refine Run.seq ?_ | refine Run.skip ?_)
      first | refine Run.condT rfl rfl ?_ | refine Run.condF rfl rfl ?_ | refine Run.condT rfl (by assumption) ?_ | refine Run.condF rfl (by assumption) ?_
      repeat (first | refine Run.seq ?_ | refine Run.skip ?_ | refine Run.block ?_)
      refine Run.region ?_
      refine O.index hE T22 rfl T54 rfl rfl newest_pv rfl (by omega) hat rfl rfl rfl ?_
      refine O.load hE T54 rfl rfl rfl rfl ?_
      refine O.alloc hE 10 T54 rfl rfl rfl ?_
      refine O.store hE T54 rfl rfl rfl rfl rfl rfl ?_
      refine O.nil ?_
      try refine Run.keep [0, 1, 4, 5, 6, 7, 8, 10, 19, 20, 21, 22, 26, 30] rfl rfl ?_
      repeat (first | refine Run.seq ?_ | refine Run.skip ?_ | refine Run.block ?_)
      refine Run.region ?_
      refine O.move rfl rfl ?_
      refine O.un rfl rfl rfl rfl rfl ?_
      refine O.nil ?_
      try refine Run.keep [0, 1, 4, 5, 6, 7, 8, 10, 19, 20, 21, 22, 26, 30] rfl rfl ?_
      repeat (first | refine Run.seq ?_ | refine Run.skip ?_)
      first | refine Run.condT rfl rfl ?_ | refine Run.condF rfl rfl ?_ | refine Run.condT rfl (by assumption) ?_ | refine Run.condF rfl (by assumption) ?_
      repeat (first | refine Run.seq ?_ | refine Run.skip ?_ | refine Run.block ?_)
      refine Run.region ?_
      refine O.field hE L54 rfl rfl rfl rfl ?_
      first | refine O.loadS hE T3 rfl rfl rfl (by rfl) rfl ?_ | refine O.loadE hE T3 rfl rfl (by rfl) rfl ?_ | refine O.load hE T3 rfl rfl rfl rfl ?_
      refine O.callE ca rfl (by first | rfl | simp [closed, men3, mens2_app, mens2_ints, mens2, men2, men1, mens1_app, mens1_ints, mens1]) (by first | rfl | simp [d2, ds1_ints, ds1_app, ds1, d1, ds0_app, ds0_ints, ds0, d0]) rfl ?_
      refine O.cmp (c' := true) rfl rfl rfl (by simpa using hk) rfl ?_
      refine O.nil ?_
      try refine Run.keep [0, 1, 4, 5, 6, 7, 8, 10, 19, 20, 21, 22, 26, 30] rfl rfl ?_
      repeat (first | refine Run.seq ?_ | refine Run.skip ?_)
      first | refine Run.condT rfl rfl ?_ | refine Run.condF rfl rfl ?_ | refine Run.condT rfl (by assumption) ?_ | refine Run.condF rfl (by assumption) ?_
      repeat (first | refine Run.seq ?_ | refine Run.skip ?_ | refine Run.block ?_)
      refine Run.region ?_
      refine O.load hE T26 rfl rfl rfl rfl ?_
      refine O.callE cs rfl (by first | rfl | simp [closed, men3, mens2_app, mens2_ints, mens2, men2, men1, mens1_app, mens1_ints, mens1]) (by first | rfl | simp [d2, ds1_ints, ds1_app, ds1, d1, ds0_app, ds0_ints, ds0, d0]) rfl ?_
      refine O.move rfl rfl ?_
      refine O.extract rfl rfl rfl ?_
      refine O.extract rfl rfl rfl ?_
      refine O.store hE T26 rfl rfl rfl rfl rfl rfl ?_
      refine O.assign rfl rfl ?_
      refine O.nil ?_
      try refine Run.keep [0, 1, 4, 5, 6, 7, 8, 10, 19, 20, 21, 22, 26, 30] rfl rfl ?_
      repeat (first | refine Run.seq ?_ | refine Run.skip ?_ | refine Run.block ?_)
      refine Run.region ?_
      refine O.move rfl rfl ?_
      refine O.move rfl rfl ?_
      first | (refine O.yes rfl rfl (by first | rfl | assumption) ?_; refine O.move rfl rfl ?_) | refine O.no rfl rfl rfl rfl ?_
      first | (refine O.yes rfl rfl (by first | rfl | assumption) ?_; first | refine O.cmp rfl rfl rfl (by first | exact decide_eq_true (by omega) | exact decide_eq_false (by omega)) rfl ?_ | refine O.cmp rfl rfl rfl rfl rfl ?_) | refine O.no rfl rfl rfl rfl ?_
      refine O.pick rfl rfl rfl rfl rfl ?_
      refine O.assign rfl rfl ?_
      refine O.nil ?_
      try refine Run.keep [0, 1, 4, 5, 6, 7, 8, 10, 19, 20, 21, 22, 26, 30] rfl rfl ?_
      repeat (first | refine Run.seq ?_ | refine Run.skip ?_ | refine Run.block ?_)
      refine Run.region ?_
      first | refine O.ar rfl rfl rfl (by exact wrap_i64 (by omega) (by omega)) rfl ?_ | refine O.ar rfl rfl rfl rfl rfl ?_
      refine O.move rfl rfl ?_
      refine O.nil ?_
      try refine Run.keep [0, 1, 4, 5, 6, 7, 8, 10, 19, 20, 21, 22, 26, 30] rfl rfl ?_
      refine ih (j + 1) _ ?_ (by omega) (by omega)
      rw [hstep]
      exact SLe.drop (by repeat (first | exact TmIn.nil | refine TmIn.cons rfl ?_)) (by repeat (first | exact BxIn.nil | refine BxIn.cons rfl ?_)) rfl rfl
    ·
      rw [if_neg hk] at hstep
      have cw := fnDWrite (g := g) d1 (by omega) hr6' (S := [IntKind.u8.wrap rb, 1, 0, 0, 0, 0, 0, 0, 0, 0, 0, 0, 0, 0, 0, 0, 0, 0, 0, 0, 0, 0, 0, 0, 0, 0, 0, 0, 0, 0, 0, 0]) rfl
      repeat (first | refine Run.seq ?_ | refine Run.skip ?_ | refine Run.block ?_)
      refine Run.region ?_
      first | refine O.cmp rfl rfl rfl (by first | exact decide_eq_true (by omega) | exact decide_eq_false (by omega)) rfl ?_ | refine O.cmp rfl rfl rfl rfl rfl ?_
      refine O.nil ?_
      try refine Run.keep [0, 1, 4, 5, 6, 7, 8, 10, 19, 20, 21, 22, 26, 30] rfl rfl ?_
      repeat (first | refine Run.seq ?_ | refine Run.skip ?_)
      first | refine Run.condT rfl rfl ?_ | refine Run.condF rfl rfl ?_ | refine Run.condT rfl (by assumption) ?_ | refine Run.condF rfl (by assumption) ?_
      repeat (first | refine Run.seq ?_ | refine Run.skip ?_ | refine Run.block ?_)
      refine Run.region ?_
      refine O.index hE T22 rfl T54 rfl rfl newest_pv rfl (by omega) hat rfl rfl rfl ?_
      refine O.load hE T54 rfl rfl rfl rfl ?_
      refine O.alloc hE 10 T54 rfl rfl rfl ?_
      refine O.store hE T54 rfl rfl rfl rfl rfl rfl ?_
      refine O.nil ?_
      try refine Run.keep [0, 1, 4, 5, 6, 7, 8, 10, 19, 20, 21, 22, 26, 30] rfl rfl ?_
      repeat (first | refine Run.seq ?_ | refine Run.skip ?_ | refine Run.block ?_)
      refine Run.region ?_
      refine O.move rfl rfl ?_
      refine O.un rfl rfl rfl rfl rfl ?_
      refine O.nil ?_
      try refine Run.keep [0, 1, 4, 5, 6, 7, 8, 10, 19, 20, 21, 22, 26, 30] rfl rfl ?_
      repeat (first | refine Run.seq ?_ | refine Run.skip ?_)
      first | refine Run.condT rfl rfl ?_ | refine Run.condF rfl rfl ?_ | refine Run.condT rfl (by assumption) ?_ | refine Run.condF rfl (by assumption) ?_
      repeat (first | refine Run.seq ?_ | refine Run.skip ?_ | refine Run.block ?_)
      refine Run.region ?_
      refine O.field hE L54 rfl rfl rfl rfl ?_
      first | refine O.loadS hE T3 rfl rfl rfl (by rfl) rfl ?_ | refine O.loadE hE T3 rfl rfl (by rfl) rfl ?_ | refine O.load hE T3 rfl rfl rfl rfl ?_
      refine O.callE ca rfl (by first | rfl | simp [closed, men3, mens2_app, mens2_ints, mens2, men2, men1, mens1_app, mens1_ints, mens1]) (by first | rfl | simp [d2, ds1_ints, ds1_app, ds1, d1, ds0_app, ds0_ints, ds0, d0]) rfl ?_
      refine O.cmp (c' := false) rfl rfl rfl (by simpa using hk) rfl ?_
      refine O.nil ?_
      try refine Run.keep [0, 1, 4, 5, 6, 7, 8, 10, 19, 20, 21, 22, 26, 30] rfl rfl ?_
      repeat (first | refine Run.seq ?_ | refine Run.skip ?_)
      first | refine Run.condT rfl rfl ?_ | refine Run.condF rfl rfl ?_ | refine Run.condT rfl (by assumption) ?_ | refine Run.condF rfl (by assumption) ?_
      repeat (first | refine Run.seq ?_ | refine Run.skip ?_ | refine Run.block ?_)
      refine Run.draw mixed rfl ?_
      refine D.load hE T26 rfl rfl rfl rfl ?_
      refine D.field hE L54 rfl rfl rfl rfl ?_
      first | refine D.loadS hE T3 rfl rfl rfl (by rfl) rfl ?_ | refine D.loadE hE T3 rfl rfl (by rfl) rfl ?_ | refine D.load hE T3 rfl rfl rfl rfl ?_
      refine D.move rfl rfl ?_
      refine D.callE cb rfl (by first | rfl | simp [closed, men3, mens2_app, mens2_ints, mens2, men2, men1, mens1_app, mens1_ints, mens1]) (by first | rfl | simp [d2, ds1_ints, ds1_app, ds1, d1, ds0_app, ds0_ints, ds0, d0]) rfl ?_
      refine D.field hE L54 rfl rfl rfl rfl ?_
      first | refine D.loadS hE T3 rfl rfl rfl (by rfl) rfl ?_ | refine D.loadE hE T3 rfl rfl (by rfl) rfl ?_ | refine D.load hE T3 rfl rfl rfl rfl ?_
      refine D.conv hE T3 T5 rfl rfl rfl ?_
      refine D.buildArr hE T30 rfl T5 rfl rfl rfl ?_
      refine D.callE cw rfl (by first | rfl | simp [closed, men3, mens2_app, mens2_ints, mens2, men2, men1, mens1_app, mens1_ints, mens1]) (by first | rfl | simp [d2, ds1_ints, ds1_app, ds1, d1, ds0_app, ds0_ints, ds0, d0]) rfl ?_
      refine D.move rfl rfl ?_
      refine D.extract rfl rfl rfl ?_
      refine D.extract rfl rfl rfl ?_
      refine D.store hE T26 rfl rfl rfl rfl rfl rfl ?_
      refine D.assign rfl rfl ?_
      refine Dr.nil ?_
      refine ⟨rfl, ?_⟩
      try refine Run.keep [0, 1, 4, 5, 6, 7, 8, 10, 19, 20, 21, 22, 26, 30] rfl rfl ?_
      repeat (first | refine Run.seq ?_ | refine Run.skip ?_ | refine Run.block ?_)
      refine Run.region ?_
      refine O.move rfl rfl ?_
      refine O.move rfl rfl ?_
      first | (refine O.yes rfl rfl (by first | rfl | assumption) ?_; refine O.move rfl rfl ?_) | refine O.no rfl rfl rfl rfl ?_
      first | (refine O.yes rfl rfl (by first | rfl | assumption) ?_; first | refine O.cmp rfl rfl rfl (by first | exact decide_eq_true (by omega) | exact decide_eq_false (by omega)) rfl ?_ | refine O.cmp rfl rfl rfl rfl rfl ?_) | refine O.no rfl rfl rfl rfl ?_
      refine O.pick rfl rfl rfl rfl rfl ?_
      refine O.assign rfl rfl ?_
      refine O.nil ?_
      try refine Run.keep [0, 1, 4, 5, 6, 7, 8, 10, 19, 20, 21, 22, 26, 30] rfl rfl ?_
      repeat (first | refine Run.seq ?_ | refine Run.skip ?_ | refine Run.block ?_)
      refine Run.region ?_
      first | refine O.ar rfl rfl rfl (by exact wrap_i64 (by omega) (by omega)) rfl ?_ | refine O.ar rfl rfl rfl rfl rfl ?_
      refine O.move rfl rfl ?_
      refine O.nil ?_
      try refine Run.keep [0, 1, 4, 5, 6, 7, 8, 10, 19, 20, 21, 22, 26, 30] rfl rfl ?_
      refine ih (j + 1) _ ?_ (by omega) (by omega)
      rw [hstep]
      exact SLe.drop (by repeat (first | exact TmIn.nil | refine TmIn.cons rfl ?_)) (by repeat (first | exact BxIn.nil | refine BxIn.cons rfl ?_)) rfl rfl
  obtain rfl : j = R.length := by omega
  repeat (first | refine Run.seq ?_ | refine Run.skip ?_ | refine Run.block ?_)
  refine Run.region ?_
  first | refine O.cmp rfl rfl rfl (by first | exact decide_eq_true (by omega) | exact decide_eq_false (by omega)) rfl ?_ | refine O.cmp rfl rfl rfl rfl rfl ?_
  refine O.nil ?_
  try refine Run.keep [0, 1, 4, 5, 6, 7, 8, 10, 19, 20, 21, 22, 26, 30] rfl rfl ?_
  repeat (first | refine Run.seq ?_ | refine Run.skip ?_)
  first | refine Run.condT rfl rfl ?_ | refine Run.condF rfl rfl ?_ | refine Run.condT rfl (by assumption) ?_ | refine Run.condF rfl (by assumption) ?_
  refine Run.exit ?_
  repeat (first | refine thenR_exit ?_ | refine roundR_exit ?_ | refine blockR_exit ?_ | refine blockR_pass rfl ?_)
  repeat (first | refine Run.seq ?_ | refine Run.skip ?_ | refine Run.block ?_)
  refine Run.region ?_
  refine O.load hE T26 rfl rfl rfl rfl ?_
  refine O.move rfl rfl ?_
  refine O.store hE T26 rfl rfl rfl rfl rfl rfl ?_
  refine O.assign rfl rfl ?_
  refine O.nil ?_
  try refine Run.keep [0, 1, 4, 5, 6, 7, 8, 10, 19, 20, 21, 22, 26, 30] rfl rfl ?_
  (repeat (first | refine Run.seq ?_ | refine Run.skip ?_)); (try refine Run.ret ?_); first | exact Ends.flat hE (.inr rfl) rfl rfl (AVle.of_eq rfl) rfl | exact Ends.flat hE (.inl rfl) rfl rfl (AVle.of_eq rfl) rfl
end Go.Proofs.Ytokjeodlcilfpaa.Vm
