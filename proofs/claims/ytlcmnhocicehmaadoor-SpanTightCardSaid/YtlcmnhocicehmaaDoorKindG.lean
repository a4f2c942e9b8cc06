/- Heaps of raw things: what comes next; columns; operations put together. Conditions: none. -/
import Derived.Test.YtlcmnhocicehmaaDoorKindC
import Derived.Test.YtlcmnhocicehmaaDoorExecT
import Derived.Test.YtlcmnhocicehmaaDoorPick
import Derived.Test.YtlcmnhocicehmaaDoorRowV
import Derived.Lib.AppendStr
section
namespace Go.Proofs.YtlcmnhocicehmaaDoor.Vm
open Go Go.RowKit Go.Lib
set_option linter.unusedVariables false
set_option linter.unusedSimpArgs false
attribute [local irreducible] Ops Dr Run
variable {g : Nat → Option (List PV)}
theorem kol_at {cs : List Kol} {j : Nat} {c : Kol} (h : cs[j]? = some c) : (cs.map kolE)[(j : Int).toNat]? = some (kolE c) := by
  rw [Int.toNat_natCast, List.getElem?_map, h]; rfl
theorem fnColumns {cs : List Kol} (h : ColsOk cs) : FnC (En Tryd.prog g) 48 [.pv (.lst 3 (cs.map kolE))] (.pv (.int .i64 0)) [] := by
  have hE := EnOk g
  obtain ⟨hlen, hok, hap⟩ := h
  have hlm : (cs.map kolE).length = cs.length := by simp
  refine FnC.of Tryd.func48 rfl rfl rfl rfl ?_
  repeat (first | refine Run.seq ?_ | refine Run.skip ?_ | refine Run.block ?_)
  refine Run.region ?_
  refine O.assign rfl rfl ?_
  refine O.nil ?_
  try refine Run.keep [0,2,3,4,6,9,10,11,12,13,21,29,32,33,34,35,42] rfl rfl ?_
  repeat (first | refine Run.seq ?_ | refine Run.skip ?_ | refine Run.block ?_)
  refine Run.region ?_
  refine O.move rfl rfl ?_
  first | refine O.lenN hE T35 rfl rfl rfl (by first | exact newest_pv | exact newest_gl rfl rfl | trivial) lenC rfl ?_ | refine O.lenLst hE T35 rfl rfl rfl (by first | exact newest_pv | exact newest_gl rfl rfl | trivial) rfl ?_
  first | refine O.cmp rfl rfl rfl (by first | exact dT (by omega) | exact dF (by omega)) rfl ?_ | refine O.cmp rfl rfl rfl rfl rfl ?_
  refine O.nil ?_
  try refine Run.keep [0,2,3,4,6,9,10,11,12,13,21,29,32,33,34,35,42] rfl rfl ?_
  repeat (first | refine Run.seq ?_ | refine Run.skip ?_)
  first | refine Run.condT rfl rfl ?_ | refine Run.condF rfl rfl ?_ | refine Run.condT rfl (by assumption) ?_ | refine Run.condF rfl (by assumption) ?_
  repeat (first | refine Run.seq ?_ | refine Run.skip ?_ | refine Run.block ?_)
  refine Run.region ?_
  refine O.move rfl rfl ?_
  first | refine O.lenN hE T35 rfl rfl rfl (by first | exact newest_pv | exact newest_gl rfl rfl | trivial) lenC rfl ?_ | refine O.lenLst hE T35 rfl rfl rfl (by first | exact newest_pv | exact newest_gl rfl rfl | trivial) rfl ?_
  refine O.move rfl rfl ?_
  refine O.nil ?_
  try refine Run.keep [0,2,3,4,6,9,10,11,12,13,21,29,32,33,34,35,42] rfl rfl ?_
  repeat (first | refine Run.seq ?_ | refine Run.skip ?_)
  refine Run.block ?_
  refine Run.loopInv (ι := Nat) (fun j => j ≤ cs.length)
    (fun j => ⟨45, [(0, .pv (.lst 3 (cs.map kolE))), (10, .pv (.lst 3 (cs.map kolE))), (11, .pv (.int .i64 cs.length)), (12, .pv (.int .i64 j))], []⟩) (fun j => cs.length - j) 0 (by omega) ?_ ?_
  ·
    exact SLe.drop (by repeat (first | exact TmIn.nil | refine TmIn.cons rfl ?_)) (by repeat (first | exact BxIn.nil | refine BxIn.cons rfl ?_)) rfl rfl
  rintro j hj ih
  by_cases hlt : j < cs.length
  ·
    obtain ⟨c, hc⟩ : ∃ c, cs[j]? = some c := ⟨_, List.getElem?_eq_getElem hlt⟩
    have hat := kol_at hc
    obtain ⟨hn, hk1, hk4⟩ := hok c (List.mem_of_getElem? hc)
    have c1 := fnLexName (g := g) hn
    have hys : ((cs.map kolE).take (j : Int).toNat).drop (0 : Int).toNat = (cs.take j).map kolE := by rw [Int.toNat_natCast, List.map_take]; rfl
    have htl : ((cs.take j).map kolE).length = j := by simp; omega
    have hne : ∀ (i : Nat) (d : Kol), (cs.take j)[i]? = some d → (d.nm.toList == c.nm.toList) = false := by
      intro i d hd
      have hij : i < j := by
        have := List.getElem?_eq_some_iff.1 hd
        obtain ⟨h1, _⟩ := this
        rw [List.length_take] at h1
        omega
      rw [List.getElem?_take, if_pos hij] at hd
      have hp := List.pairwise_iff_getElem.1 hap i j (by omega) hlt hij
      have e1 : cs[i]'(by omega) = d := by
        have := List.getElem?_eq_getElem (l := cs) (i := i) (by omega)
        rw [hd] at this
        exact (Option.some.inj this).symm
      have e2 : cs[j] = c := by
        have := List.getElem?_eq_getElem hlt
        rw [hc] at this
        exact (Option.some.inj this).symm
      rw [e1, e2] at hp
      exact hp
    obtain ⟨ck, ckd, cnl⟩ := c
    dsimp only at hk1 hk4 c1 hne
    dsimp only [kolE] at hat
    generalize hT : cs.take j = T at *
    have hTl : T.length = j := by rw [← hT, List.length_take]; omega
    repeat (first | refine Run.seq ?_ | refine Run.skip ?_ | refine Run.block ?_)
    refine Run.region ?_
    first | refine O.cmp rfl rfl rfl (by first | exact dT (by omega) | exact dF (by omega)) rfl ?_ | refine O.cmp rfl rfl rfl rfl rfl ?_
    refine O.nil ?_
    try refine Run.keep [0,2,3,4,6,9,10,11,12,13,21,29,32,33,34,35,42] rfl rfl ?_
    repeat (first | refine Run.seq ?_ | refine Run.skip ?_)
    first | refine Run.condT rfl rfl ?_ | refine Run.condF rfl rfl ?_ | refine Run.condT rfl (by assumption) ?_ | refine Run.condF rfl (by assumption) ?_
    repeat (first | refine Run.seq ?_ | refine Run.skip ?_ | refine Run.block ?_)
    refine Run.region ?_
    refine O.move rfl rfl ?_
    refine O.index hE T35 rfl T52 rfl rfl (by first | exact newest_pv | exact newest_gl rfl rfl | trivial) rfl (by omega) (by first | assumption | rfl) rfl rfl rfl ?_
    refine O.load hE T52 rfl rfl rfl rfl ?_
    refine O.alloc hE 4 T52 rfl rfl rfl ?_
    refine O.assign rfl rfl ?_
    refine O.store hE T52 rfl rfl rfl rfl rfl rfl ?_
    refine O.nil ?_
    try refine Run.keep [0,2,3,4,6,9,10,11,12,13,21,29,32,33,34,35,42] rfl rfl ?_
    repeat (first | refine Run.seq ?_ | refine Run.skip ?_ | refine Run.block ?_)
    refine Run.region ?_
    refine O.field hE L52 rfl rfl rfl rfl ?_
    first | refine O.loadS hE T9 rfl rfl rfl (by rfl) rfl ?_ | refine O.loadE hE T9 rfl rfl (by rfl) rfl ?_ | refine O.load hE T9 rfl rfl rfl rfl ?_
    refine O.build hE T105 L105 rfl rfl rfl ?_
    refine O.callE c1 rfl (by first | rfl | simp [closed, men3, mens2_app, mens2_ints, mens2, men2, men1, mens1_app, mens1_ints, mens1]) (by first | rfl | simp [d2, ds1_ints, ds1_app, ds1, d1, ds0_app, ds0_ints, ds0, d0]) rfl ?_
    first | refine O.cmp rfl rfl rfl (by first | exact dT (by omega) | exact dF (by omega)) rfl ?_ | refine O.cmp rfl rfl rfl rfl rfl ?_
    refine O.nil ?_
    try refine Run.keep [0,2,3,4,6,9,10,11,12,13,21,29,32,33,34,35,42] rfl rfl ?_
    repeat (first | refine Run.seq ?_ | refine Run.skip ?_)
    first | refine Run.condT rfl rfl ?_ | refine Run.condF rfl rfl ?_ | refine Run.condT rfl (by assumption) ?_ | refine Run.condF rfl (by assumption) ?_
    repeat (first | refine Run.seq ?_ | refine Run.skip ?_ | refine Run.block ?_)
    refine Run.region ?_
    refine O.field hE L52 rfl rfl rfl rfl ?_
    first | refine O.loadS hE T3 rfl rfl rfl (by rfl) rfl ?_ | refine O.loadE hE T3 rfl rfl (by rfl) rfl ?_ | refine O.load hE T3 rfl rfl rfl rfl ?_
    first | refine O.cmp rfl rfl rfl (by first | exact dT (by omega) | exact dF (by omega)) rfl ?_ | refine O.cmp rfl rfl rfl rfl rfl ?_
    refine O.move rfl rfl ?_
    first | (refine O.yes rfl rfl (by trivial) ?_; refine O.field hE L52 rfl rfl rfl rfl ?_) | refine O.no rfl rfl rfl rfl ?_
    first | (refine O.yes rfl rfl (by trivial) ?_; first | refine O.loadS hE T3 rfl rfl rfl (by rfl) rfl ?_ | refine O.loadE hE T3 rfl rfl (by rfl) rfl ?_ | refine O.load hE T3 rfl rfl rfl rfl ?_) | refine O.no rfl rfl rfl rfl ?_
    first | (refine O.yes rfl rfl (by trivial) ?_; first | refine O.cmp rfl rfl rfl (by first | exact dT (by omega) | exact dF (by omega)) rfl ?_ | refine O.cmp rfl rfl rfl rfl rfl ?_) | refine O.no rfl rfl rfl rfl ?_
    refine O.pick rfl rfl rfl rfl rfl ?_
    refine O.nil ?_
    try refine Run.keep [0,2,3,4,6,9,10,11,12,13,21,29,32,33,34,35,42] rfl rfl ?_
    repeat (first | refine Run.seq ?_ | refine Run.skip ?_)
    first | refine Run.condT rfl rfl ?_ | refine Run.condF rfl rfl ?_ | refine Run.condT rfl (by assumption) ?_ | refine Run.condF rfl (by assumption) ?_
    repeat (first | refine Run.seq ?_ | refine Run.skip ?_ | refine Run.block ?_)
    refine Run.region ?_
    refine O.move rfl rfl ?_
    refine O.move rfl rfl ?_
    refine O.slice hE T35 rfl T52 rfl rfl newest_pv rfl rfl rfl (by omega) (by omega) (by rw [hlm]; omega) hys rfl ?_
    first | refine O.lenN hE T35 rfl rfl rfl (by first | exact newest_pv | exact newest_gl rfl rfl | trivial) lenC rfl ?_ | refine O.lenLst hE T35 rfl rfl rfl (by first | exact newest_pv | exact newest_gl rfl rfl | trivial) rfl ?_
    refine O.move rfl rfl ?_
    refine O.nil ?_
    try refine Run.keep [0,2,3,4,6,9,10,11,12,13,21,29,32,33,34,35,42] rfl rfl ?_
    repeat (first | refine Run.seq ?_ | refine Run.skip ?_)
    refine Run.block ?_
    refine Run.loopInv (ι := Nat) (fun i => i ≤ j)
      (fun i => ⟨45, [(0, .pv (.lst 3 (cs.map kolE))), (4, .ptr 4 0), (10, .pv (.lst 3 (cs.map kolE))), (11, .pv (.int .i64 cs.length)), (12, .pv (.int .i64 j)), (32, .pv (.lst 3 (T.map kolE))), (33, .pv (.int .i64 T.length)), (34, .pv (.int .i64 i))], [(4, .var [.pv (.str ck), .pv (.int .i64 ckd), .pv (.bool cnl)])]⟩) (fun i => j - i) 0 (by omega) ?_ ?_
    ·
      exact SLe.drop (by repeat (first | exact TmIn.nil | refine TmIn.cons rfl ?_)) (by repeat (first | exact BxIn.nil | refine BxIn.cons rfl ?_)) rfl rfl
    rintro i hi ih2
    by_cases hlt2 : i < j
    ·
      obtain ⟨d, hd⟩ : ∃ d, T[i]? = some d := ⟨_, List.getElem?_eq_getElem (by omega)⟩
      have hat2 := kol_at hd
      have hne2 := hne i d hd
      obtain ⟨dk, dkd, dnl⟩ := d
      dsimp only at hne2
      dsimp only [kolE] at hat2
      repeat (first | refine Run.seq ?_ | refine Run.skip ?_ | refine Run.block ?_)
      refine Run.region ?_
      first | refine O.cmp rfl rfl rfl (by first | exact dT (by omega) | exact dF (by omega)) rfl ?_ | refine O.cmp rfl rfl rfl rfl rfl ?_
      refine O.nil ?_
      try refine Run.keep [0,2,3,4,6,9,10,11,12,13,21,29,32,33,34,35,42] rfl rfl ?_
      repeat (first | refine Run.seq ?_ | refine Run.skip ?_)
      first | refine Run.condT rfl rfl ?_ | refine Run.condF rfl rfl ?_ | refine Run.condT rfl (by assumption) ?_ | refine Run.condF rfl (by assumption) ?_
      repeat (first | refine Run.seq ?_ | refine Run.skip ?_ | refine Run.block ?_)
      refine Run.region ?_
      refine O.index hE T35 rfl T52 rfl rfl (by first | exact newest_pv | exact newest_gl rfl rfl | trivial) rfl (by omega) (by first | assumption | rfl) rfl rfl rfl ?_
      refine O.load hE T52 rfl rfl rfl rfl ?_
      refine O.alloc hE 6 T52 rfl rfl rfl ?_
      refine O.store hE T52 rfl rfl rfl rfl rfl rfl ?_
      refine O.nil ?_
      try refine Run.keep [0,2,3,4,6,9,10,11,12,13,21,29,32,33,34,35,42] rfl rfl ?_
      repeat (first | refine Run.seq ?_ | refine Run.skip ?_ | refine Run.block ?_)
      refine Run.region ?_
      refine O.field hE L52 rfl rfl rfl rfl ?_
      first | refine O.loadS hE T9 rfl rfl rfl (by rfl) rfl ?_ | refine O.loadE hE T9 rfl rfl (by rfl) rfl ?_ | refine O.load hE T9 rfl rfl rfl rfl ?_
      refine O.field hE L52 rfl rfl rfl rfl ?_
      first | refine O.loadS hE T9 rfl rfl rfl (by rfl) rfl ?_ | refine O.loadE hE T9 rfl rfl (by rfl) rfl ?_ | refine O.load hE T9 rfl rfl rfl rfl ?_
      refine O.strEqK rfl rfl hne2 rfl ?_
      refine O.nil ?_
      try refine Run.keep [0,2,3,4,6,9,10,11,12,13,21,29,32,33,34,35,42] rfl rfl ?_
      repeat (first | refine Run.seq ?_ | refine Run.skip ?_)
      first | refine Run.condT rfl rfl ?_ | refine Run.condF rfl rfl ?_ | refine Run.condT rfl (by assumption) ?_ | refine Run.condF rfl (by assumption) ?_
      repeat (first | refine Run.seq ?_ | refine Run.skip ?_ | refine Run.block ?_)
      refine Run.region ?_
      first | refine O.ar rfl rfl rfl (by exact wrap_i64 (by omega) (by omega)) rfl ?_ | refine O.ar rfl rfl rfl rfl rfl ?_
      refine O.move rfl rfl ?_
      refine O.nil ?_
      try refine Run.keep [0,2,3,4,6,9,10,11,12,13,21,29,32,33,34,35,42] rfl rfl ?_
      refine ih2 (i + 1) _ ?_ (by omega) (by omega)
      exact SLe.drop (by repeat (first | exact TmIn.nil | refine TmIn.cons rfl ?_)) (by repeat (first | exact BxIn.nil | refine BxIn.cons rfl ?_)) rfl rfl
    have hi' : i = T.length := by omega
    subst hi'
    repeat (first | refine Run.seq ?_ | refine Run.skip ?_ | refine Run.block ?_)
    refine Run.region ?_
    first | refine O.cmp rfl rfl rfl (by first | exact dT (by omega) | exact dF (by omega)) rfl ?_ | refine O.cmp rfl rfl rfl rfl rfl ?_
    refine O.nil ?_
    try refine Run.keep [0,2,3,4,6,9,10,11,12,13,21,29,32,33,34,35,42] rfl rfl ?_
    repeat (first | refine Run.seq ?_ | refine Run.skip ?_)
    first | refine Run.condT rfl rfl ?_ | refine Run.condF rfl rfl ?_ | refine Run.condT rfl (by assumption) ?_ | refine Run.condF rfl (by assumption) ?_
    refine Run.exit ?_
    repeat (first | refine thenR_exit ?_ | refine roundR_exit ?_ | refine blockR_exit ?_ | refine blockR_pass rfl ?_)
    repeat (first | refine Run.seq ?_ | refine Run.skip ?_ | refine Run.block ?_)
    refine Run.region ?_
    first | refine O.ar rfl rfl rfl (by exact wrap_i64 (by omega) (by omega)) rfl ?_ | refine O.ar rfl rfl rfl rfl rfl ?_
    refine O.move rfl rfl ?_
    refine O.nil ?_
    try refine Run.keep [0,2,3,4,6,9,10,11,12,13,21,29,32,33,34,35,42] rfl rfl ?_
    refine ih (j + 1) _ ?_ (by omega) (by omega)
    exact SLe.drop (by repeat (first | exact TmIn.nil | refine TmIn.cons rfl ?_)) (by repeat (first | exact BxIn.nil | refine BxIn.cons rfl ?_)) rfl rfl
  have hj' : j = cs.length := by omega
  subst hj'
  repeat (first | refine Run.seq ?_ | refine Run.skip ?_ | refine Run.block ?_)
  refine Run.region ?_
  first | refine O.cmp rfl rfl rfl (by first | exact dT (by omega) | exact dF (by omega)) rfl ?_ | refine O.cmp rfl rfl rfl rfl rfl ?_
  refine O.nil ?_
  try refine Run.keep [0,2,3,4,6,9,10,11,12,13,21,29,32,33,34,35,42] rfl rfl ?_
  repeat (first | refine Run.seq ?_ | refine Run.skip ?_)
  first | refine Run.condT rfl rfl ?_ | refine Run.condF rfl rfl ?_ | refine Run.condT rfl (by assumption) ?_ | refine Run.condF rfl (by assumption) ?_
  refine Run.exit ?_
  repeat (first | refine thenR_exit ?_ | refine roundR_exit ?_ | refine blockR_exit ?_ | refine blockR_pass rfl ?_)
  repeat (first | refine Run.seq ?_ | refine Run.skip ?_ | refine Run.block ?_)
  refine Run.region ?_
  refine O.assign rfl rfl ?_
  refine O.nil ?_
  try refine Run.keep [0,2,3,4,6,9,10,11,12,13,21,29,32,33,34,35,42] rfl rfl ?_
  (repeat (first | refine Run.seq ?_ | refine Run.skip ?_)); (try refine Run.ret ?_); first | exact Ends.flat hE (.inr rfl) rfl rfl (AVle.of_eq rfl) rfl | exact Ends.flat hE (.inl rfl) rfl rfl (AVle.of_eq rfl) rfl
end Go.Proofs.YtlcmnhocicehmaaDoor.Vm
end
section
section
namespace Go.Proofs.YtlcmnhocicehmaaDoor.Vm
open Go Go.RowKit
set_option linter.unusedVariables false
set_option linter.unusedSimpArgs false
section
variable {P : Program} {g : Gb} {s s1 s' : St} {cx : Cx} {a : Act} {w : World} {G : Gh}
end
section
variable {E : Env} {n : Nat} {tm : List (Nat × AV)} {bx : List (Nat × Box)} {ops : Array Oper} {l : List Oper} {d : Tmp} {ty : TypeId} {pos : String} {after : Array Edge}
theorem D.sliceS {Θ : List Rec → St → Prop} {t : TypeId} {y : Operand} {lo hi : Option Operand} {i : TI} {s s' : ByteArray} {a b : Int} (hE : E.Ok) (ht : E.T t = some i) (hk : i.desc = .strg) (hy : evO E tm y = some (.pv (.str s))) (hlo : bndO E tm 0 lo = some a) (hhi : bndO E tm s.size hi = some b)
    (h0 : 0 ≤ a) (h1 : a ≤ b) (h2 : b ≤ s.size) (hys : s.extract a.toNat b.toNat = s') (hd : Nat.blt d n = true)
    (h : Dr E.P E.g ops l ⟨n, (d, .pv (.str s')) :: tm, bx⟩ (fun rs => Θ (⟨rtsOf E tm (y :: (lo.toList ++ hi.toList)), [], [], some d, .pv (.str s'), []⟩ :: rs))) : Dr E.P E.g ops (⟨some d, .slice t y lo hi none, ty, pos, after, none⟩ :: l) ⟨n, tm, bx⟩ Θ :=
  D.of (rt := rtsOf E tm (y :: (lo.toList ++ hi.toList))) (rb := []) (rts_now _) none_met hd (fun s2 hs _ hd' => OpOk.sliceStr (s := s2) (hE.t _ _ ht) hk (evO_ok (n := s2.n) (bx := s2.bx) (rts_ev (by simp) hy hs)) (bndO_ok (n := s2.n) (bx := s2.bx) (bnd_rts hlo (fun z hz => by subst hz; simp) hs)) (bndO_ok (n := s2.n) (bx := s2.bx) (bnd_rts hhi (fun z hz => by subst hz; simp) hs)) h0 h1 h2 hys (fun t ht => by obtain rfl := Option.some.inj ht; exact hd')) h
theorem D.minI {Θ : List Rec → St → Prop} {x y : Operand} {ts : Array TypeId} {k k' : IntKind} {m j r : Int} (hx : evO E tm x = some (.pv (.int k m))) (hy : evO E tm y = some (.pv (.int k' j))) (hr : (if j < m then j else m) = r) (hd : Nat.blt d n = true)
    (h : Dr E.P E.g ops l ⟨n, (d, .pv (.int k r)) :: tm, bx⟩ (fun rs => Θ (⟨rtOf x (.pv (.int k m)) ++ rtOf y (.pv (.int k' j)), [], [], some d, .pv (.int k r), []⟩ :: rs))) :
    Dr E.P E.g ops (⟨some d, .call { callee := .builtin .min, args := #[x, y], argTypes := ts }, ty, pos, after, none⟩ :: l) ⟨n, tm, bx⟩ Θ := by
  subst hr
  refine D.of (rt := rtOf x (.pv (.int k m)) ++ rtOf y (.pv (.int k' j))) (rb := []) (fun w hw => (List.mem_append.1 hw).elim (rt_now hx w) (rt_now hy w)) none_met hd (fun s hs _ hd' => ?_) h
  have ex := rt_ev hx (fun p hp => hs p (mem_l hp))
  have ey := rt_ev hy (fun p hp => hs p (mem_r hp))
  obtain ⟨e1, e2⟩ := flatsO_ok (E := E) (n := s.n) (tm := s.tm) (bx := s.bx) [x, y] (by simp [flatsO, ex, ey, AV.flat?, PV.val?])
  refine OpOk.now (s := s) (v := .int k (if j < m then j else m)) (by intros; intro h; cases h) e1 ?_ rfl (fun t ht => by obtain rfl := Option.some.inj ht; exact hd')
  have h2 : ∀ (ρ : Operand → Value), ρ x = .int k m → ρ y = .int k' j → Vm.now E.P (execOp ρ ⟨some d, .call { callee := .builtin .min, args := #[x, y], argTypes := ts }, ty, pos, after, none⟩) = some (.value (.int k (if j < m then j else m))) := fun ρ h1 h2 => now_call2 h1 h2 (fun _ => rfl)
  refine h2 _ ?_ ?_
  · rw [e2 x (by simp)]; simp [flO, ex, AV.flat?, PV.val?]
  · rw [e2 y (by simp)]; simp [flO, ey, AV.flat?, PV.val?]
theorem AVle.boxes {s s' : St} (hb : ∀ x q, s.lstOf x = some q → s'.lstOf x = some q) {x y : AV} (h : AVle s x y) : AVle s' x y := by
  induction h with
  | refl x => exact .refl x
  | any x => exact .any x
  | lst x sz xs h => exact .lst x sz xs (hb _ _ h)
  | nil sz => exact .nil sz
  | agg xs ys hl _ ih => exact .agg xs ys hl ih
  | tup xs ys hl _ ih => exact .tup xs ys hl ih
theorem AVles.boxes {s s' : St} (hb : ∀ x q, s.lstOf x = some q → s'.lstOf x = some q) {xs ys : List AV} (h : AVles s xs ys) : AVles s' xs ys := by
  induction h with
  | nil => exact .nil
  | cons h t ih => exact .cons (h.boxes hb) ih
/-- A call whose arguments are lists that these boxes hold, in a region whose order is drawn. -/
theorem D.callF {Θ : List Rec → St → Prop} {f : FuncId} {xs : Array Operand} {ts : Array TypeId} {as0 args : List AV} {r : AV} (rb : List (Nat × Box)) (hc : FnC E f args r []) (hargs : evsO E tm xs.toList = some as0) (hle : AVles ⟨0, [], rb⟩ as0 args) (hrb : BxIn bx rb) (hcl : closed args = true) (hdr : d2 r = true) (hd : Nat.blt d n = true)
    (h : Dr E.P E.g ops l ⟨n, (d, r) :: tm, bx⟩ (fun rs => Θ (⟨rtsOf E tm xs.toList, rb, [], some d, r, []⟩ :: rs))) :
    Dr E.P E.g ops (⟨some d, .call { callee := .value (.func f), args := xs, argTypes := ts }, ty, pos, after, none⟩ :: l) ⟨n, tm, bx⟩ Θ := by
  obtain ⟨fn, h1, h2, h3⟩ := hc.fn
  have hall : ∀ (l : List (Nat × Box)), BxIn bx l → ∀ p ∈ l, look bx p.1 = some p.2 := by
    intro l hl
    induction hl with
    | nil => intro p hp; simp at hp
    | cons h r ih =>
      intro p hp
      cases hp with
      | head => exact h
      | tail _ hp => exact ih p hp
  refine Dr.cons (r := ⟨rtsOf E tm xs.toList, rb, [], some d, r, []⟩) (.plain rfl rfl fun s hs => ?_) (met_mk (rts_now _) (hall rb hrb) none_new hd) h
  have := OpOk.call (s := s) (P := E.P) (g := E.g) (d := d) (xs := xs) (ts := ts) (ty := ty) (pos := pos) (after := after) (gd := none) 0 hc.ok h1 h2 h3 (by
    rw [evsO_rts _ _ hargs s hs.t]
    refine hle.boxes fun x q hq => ?_
    cases x with
    | pv p => cases p <;> first | exact hq | (simp [St.lstOf] at hq)
    | gl b m =>
      simp only [St.lstOf] at hq ⊢
      cases hl : look rb b with
      | none => rw [hl] at hq; cases hq
      | some B =>
        rw [hl] at hq
        rw [hs.b (b, B) (look_in hl)]
        exact hq
    | _ => simp [St.lstOf] at hq) hcl rfl rfl hdr rfl (hs.d d rfl)
  rw [sh3_zero] at this
  exact this
theorem rts_tail {x : Operand} {xs : List Operand} {p : Nat × AV} (hp : p ∈ rtsOf E tm xs) : p ∈ rtsOf E tm (x :: xs) := by
  cases x with
  | tmp t =>
    simp only [rtsOf]
    split
    · exact List.mem_cons_of_mem _ hp
    · exact hp
  | const v => exact hp
  | global k => exact hp
  | func f => exact hp
theorem fillO_mono {place : Nat → Option (Nat × Nat)} {s : St} : ∀ (ps : List (Nat × Operand)) (cells r : List AV), fillO E place tm cells ps = some r → (∀ p ∈ rtsOf E tm (ps.map (·.2)), look s.tm p.1 = some p.2) → fillO E place s.tm cells ps = some r
  | [], cells, r, h, _ => h
  | (i, x) :: rest, cells, r, h, hs => by
    simp only [fillO] at h ⊢
    split at h
    · rename_i off size ys h1 h2
      split at h
      · rename_i c h3 h4
        rw [Option.bind_eq_some_iff] at h2
        obtain ⟨y, hy, h2⟩ := h2
        have e1 : evO E s.tm x = some y := by
          cases x with
          | tmp t => exact hs (t, y) (by simp only [List.map_cons, rtsOf]; rw [show look tm t = some y from hy]; simp)
          | const v => exact hy
          | global k => exact hy
          | func f => exact hy
        have e2 := fillO_mono (s := s) rest c r h (fun p hp => hs p (by rw [List.map_cons]; exact rts_tail hp))
        rw [h1, e1]
        simp only [Option.bind_some, h2, h3, h4]
        exact e2
      · cases h
    · cases h
theorem D.build {Θ : List Rec → St → Prop} {t : TypeId} {parts : Array (Nat × Operand)} {i : TI} {ls : List (Nat × Nat)} {zs cs : List AV} (hE : E.Ok) (ht : E.T t = some i) (hl : E.L t = some ls) (hz : pvsO i.zero = some zs) (hf : fillO E (fun j => ls[j]?) tm zs parts.toList = some cs) (hd : Nat.blt d n = true)
    (h : Dr E.P E.g ops l ⟨n, (d, .agg cs) :: tm, bx⟩ (fun rs => Θ (⟨rtsOf E tm (parts.toList.map (·.2)), [], [], some d, .agg cs, []⟩ :: rs))) : Dr E.P E.g ops (⟨some d, .build t parts, ty, pos, after, none⟩ :: l) ⟨n, tm, bx⟩ Θ :=
  D.of (rt := rtsOf E tm (parts.toList.map (·.2))) (rb := []) (rts_now _) none_met hd (fun s hs _ hd' => OpOk.build (s := s) (hE.t _ _ ht) (hE.l _ _ hl) (by rw [← pvsO_ok _ _ hz]; exact fillO_ok (n := s.n) (tm := s.tm) (bx := s.bx) _ _ _ (fillO_mono _ _ _ hf hs)) (fun t ht => by obtain rfl := Option.some.inj ht; exact hd')) h
end
end Go.Proofs.YtlcmnhocicehmaaDoor.Vm
end
section
namespace Go.Proofs.YtlcmnhocicehmaaDoor.Vm
open Go Go.RowKit Go.Lib
set_option linter.unusedVariables false
set_option linter.unusedSimpArgs false
attribute [local irreducible] Ops Dr Run
section
variable {E : Env} {n : Nat} {tm : List (Nat × AV)} {bx : List (Nat × Box)} {ops : Array Oper} {l : List Oper} {d : Tmp} {ty : TypeId} {pos : String} {after : Array Edge}
end
variable {g : Nat → Option (List PV)}
theorem fnOp1 {op : Int} (a : Xp) : FnC (En Tryd.prog g) 34 [.pv (.int .i64 op), xA a] (xA (.un op a)) [] := by
  have hE := EnOk g
  exact FnC.go hE mixed Tryd.func34 []
theorem fnOp2 {op : Int} (a b : Xp) : FnC (En Tryd.prog g) 12 [.pv (.int .i64 op), xA a, xA b] (xA (.bi op a b)) [] := by
  have hE := EnOk g
  exact FnC.go hE mixed Tryd.func12 []
end Go.Proofs.YtlcmnhocicehmaaDoor.Vm
end
end
