/- Heaps of raw things: a leaf of an expression, the columns, a heap made. Conditions: none. -/
import Derived.Test.YtdigejpgjnhclaaDoorKindC
import Derived.Test.YtdigejpgjnhclaaDoorExecT
import Derived.Test.YtdigejpgjnhclaaDoorPick
import Derived.Test.YtdigejpgjnhclaaDoorRowV
import Derived.Lib.AppendStr
section
section
namespace Go.Proofs.YtdigejpgjnhclaaDoor.Vm
open Go Go.RowKit Go.Lib
set_option linter.unusedVariables false
set_option linter.unusedSimpArgs false
attribute [local irreducible] Ops Dr Run
variable {g : Nat → Option (List PV)}
theorem kol_at {cs : List Kol} {j : Nat} {c : Kol} (h : cs[j]? = some c) : (cs.map kolE)[(j : Int).toNat]? = some (kolE c) := by
  rw [Int.toNat_natCast, List.getElem?_map, h]; rfl
theorem fnColumns {cs : List Kol} (h : ColsOk cs) : FnC (En Tryd.prog g) 34 [.pv (.lst 3 (cs.map kolE))] (.pv (.int .i64 0)) [] := by
  have hE := EnOk g
  obtain ⟨hlen, hok, hap⟩ := h
  have hlm : (cs.map kolE).length = cs.length := by simp
  refine FnC.of Tryd.func34 rfl rfl rfl rfl ?_
  repeat (first | refine Run.seq ?_ | refine Run.skip ?_ | refine Run.block ?_)
  refine Run.region ?_
  refine O.assign rfl rfl ?_
  refine O.nil ?_
  try refine Run.keep [0,2,3,4,6,9,10,11,12,13,21,29,32,33,34,35,42] rfl rfl ?_
  repeat (first | refine Run.seq ?_ | refine Run.skip ?_ | refine Run.block ?_)
  refine Run.region ?_
  refine O.move rfl rfl ?_
  first | refine O.lenN hE T29 rfl rfl rfl (by first | exact newest_pv | exact newest_gl rfl rfl | trivial) lenC rfl ?_ | refine O.lenLst hE T29 rfl rfl rfl (by first | exact newest_pv | exact newest_gl rfl rfl | trivial) rfl ?_
  first | refine O.cmp rfl rfl rfl (by first | exact dT (by omega) | exact dF (by omega)) rfl ?_ | refine O.cmp rfl rfl rfl rfl rfl ?_
  refine O.nil ?_
  try refine Run.keep [0,2,3,4,6,9,10,11,12,13,21,29,32,33,34,35,42] rfl rfl ?_
  repeat (first | refine Run.seq ?_ | refine Run.skip ?_)
  first | refine Run.condT rfl rfl ?_ | refine Run.condF rfl rfl ?_ | refine Run.condT rfl (by assumption) ?_ | refine Run.condF rfl (by assumption) ?_
  repeat (first | refine Run.seq ?_ | refine Run.skip ?_ | refine Run.block ?_)
  refine Run.region ?_
  refine O.move rfl rfl ?_
  first | refine O.lenN hE T29 rfl rfl rfl (by first | exact newest_pv | exact newest_gl rfl rfl | trivial) lenC rfl ?_ | refine O.lenLst hE T29 rfl rfl rfl (by first | exact newest_pv | exact newest_gl rfl rfl | trivial) rfl ?_
  refine O.move rfl rfl ?_
  refine O.nil ?_
  try refine Run.keep [0,2,3,4,6,9,10,11,12,13,21,29,32,33,34,35,42] rfl rfl ?_
  repeat (first | refine Run.seq ?_ | refine Run.skip ?_)
  refine Run.block ?_
  refine Run.loopInv (ι := Nat) (fun j => j ≤ cs.length)
    (fun j => ⟨45, [(0, .pv (.lst 3 (cs.map kolE))), (10, .pv (.lst 3 (cs.map kolE))), (11, .pv (.int .i64 cs.length)), (12, .pv (.int .i64 j))], []⟩) (fun j => cs.length - j) 0 (by omega) ?_ ?_
  ·
    exact SLe.drop (by repeat (first | exact TmIn.nil | refine TmIn.cons rfl ?_)) (by repeat (first | exact BxIn.nil | refine BxIn.cons rfl ?_)) rfl rfl
  rintro j hj ih
  by_cases hlt : j < cs.length
  ·
    obtain ⟨c, hc⟩ : ∃ c, cs[j]? = some c := ⟨_, List.getElem?_eq_getElem hlt⟩
    have hat := kol_at hc
    obtain ⟨hn, hk1, hk4⟩ := hok c (List.mem_of_getElem? hc)
    have c1 := fnLexName (g := g) hn
    have hys : ((cs.map kolE).take (j : Int).toNat).drop (0 : Int).toNat = (cs.take j).map kolE := by rw [Int.toNat_natCast, List.map_take]; rfl
    have htl : ((cs.take j).map kolE).length = j := by simp; omega
    have hne : ∀ (i : Nat) (d : Kol), (cs.take j)[i]? = some d → (d.nm.toList == c.nm.toList) = false := by
      intro i d hd
      have hij : i < j := by
        have := List.getElem?_eq_some_iff.1 hd
        obtain ⟨h1, _⟩ := this
        rw [List.length_take] at h1
        omega
      rw [List.getElem?_take, if_pos hij] at hd
      have hp := List.pairwise_iff_getElem.1 hap i j (by omega) hlt hij
      have e1 : cs[i]'(by omega) = d := by
        have := List.getElem?_eq_getElem (l := cs) (i := i) (by omega)
        rw [hd] at this
        exact (Option.some.inj this).symm
      have e2 : cs[j] = c := by
        have := List.getElem?_eq_getElem hlt
        rw [hc] at this
        exact (Option.some.inj this).symm
      rw [e1, e2] at hp
      exact hp
    obtain ⟨ck, ckd, cnl⟩ := c
    dsimp only at hk1 hk4 c1 hne
    dsimp only [kolE] at hat
    generalize hT : cs.take j = T at *
    have hTl : T.length = j := by rw [← hT, List.length_take]; omega
    repeat (first | refine Run.seq ?_ | refine Run.skip ?_ | refine Run.block ?_)
    refine Run.region ?_
    first | refine O.cmp rfl rfl rfl (by first | exact dT (by omega) | exact dF (by omega)) rfl ?_ | refine O.cmp rfl rfl rfl rfl rfl ?_
    refine O.nil ?_
    try refine Run.keep [0,2,3,4,6,9,10,11,12,13,21,29,32,33,34,35,42] rfl rfl ?_
    repeat (first | refine Run.seq ?_ | refine Run.skip ?_)
    first | refine Run.condT rfl rfl ?_ | refine Run.condF rfl rfl ?_ | refine Run.condT rfl (by assumption) ?_ | refine Run.condF rfl (by assumption) ?_
    repeat (first | refine Run.seq ?_ | refine Run.skip ?_ | refine Run.block ?_)
    refine Run.region ?_
    refine O.move rfl rfl ?_
    refine O.index hE T29 rfl T37 rfl rfl (by first | exact newest_pv | exact newest_gl rfl rfl | trivial) rfl (by omega) (by first | assumption | rfl) rfl rfl rfl ?_
    refine O.load hE T37 rfl rfl rfl rfl ?_
    refine O.alloc hE 4 T37 rfl rfl rfl ?_
    refine O.assign rfl rfl ?_
    refine O.store hE T37 rfl rfl rfl rfl rfl rfl ?_
    refine O.nil ?_
    try refine Run.keep [0,2,3,4,6,9,10,11,12,13,21,29,32,33,34,35,42] rfl rfl ?_
    repeat (first | refine Run.seq ?_ | refine Run.skip ?_ | refine Run.block ?_)
    refine Run.region ?_
    refine O.field hE L37 rfl rfl rfl rfl ?_
    first | refine O.loadS hE T9 rfl rfl rfl (by rfl) rfl ?_ | refine O.loadE hE T9 rfl rfl (by rfl) rfl ?_ | refine O.load hE T9 rfl rfl rfl rfl ?_
    refine O.build hE T90 L90 rfl rfl rfl ?_
    refine O.callE c1 rfl (by first | rfl | simp [closed, men3, mens2_app, mens2_ints, mens2, men2, men1, mens1_app, mens1_ints, mens1]) (by first | rfl | simp [d2, ds1_ints, ds1_app, ds1, d1, ds0_app, ds0_ints, ds0, d0]) rfl ?_
    first | refine O.cmp rfl rfl rfl (by first | exact dT (by omega) | exact dF (by omega)) rfl ?_ | refine O.cmp rfl rfl rfl rfl rfl ?_
    refine O.nil ?_
    try refine Run.keep [0,2,3,4,6,9,10,11,12,13,21,29,32,33,34,35,42] rfl rfl ?_
    repeat (first | refine Run.seq ?_ | refine Run.skip ?_)
    first | refine Run.condT rfl rfl ?_ | refine Run.condF rfl rfl ?_ | refine Run.condT rfl (by assumption) ?_ | refine Run.condF rfl (by assumption) ?_
    repeat (first | refine Run.seq ?_ | refine Run.skip ?_ | refine Run.block ?_)
    refine Run.region ?_
    refine O.field hE L37 rfl rfl rfl rfl ?_
    first | refine O.loadS hE T3 rfl rfl rfl (by rfl) rfl ?_ | refine O.loadE hE T3 rfl rfl (by rfl) rfl ?_ | refine O.load hE T3 rfl rfl rfl rfl ?_
    first | refine O.cmp rfl rfl rfl (by first | exact dT (by omega) | exact dF (by omega)) rfl ?_ | refine O.cmp rfl rfl rfl rfl rfl ?_
    refine O.move rfl rfl ?_
    first | (refine O.yes rfl rfl (by trivial) ?_; refine O.field hE L37 rfl rfl rfl rfl ?_) | refine O.no rfl rfl rfl rfl ?_
    first | (refine O.yes rfl rfl (by trivial) ?_; first | refine O.loadS hE T3 rfl rfl rfl (by rfl) rfl ?_ | refine O.loadE hE T3 rfl rfl (by rfl) rfl ?_ | refine O.load hE T3 rfl rfl rfl rfl ?_) | refine O.no rfl rfl rfl rfl ?_
    first | (refine O.yes rfl rfl (by trivial) ?_; first | refine O.cmp rfl rfl rfl (by first | exact dT (by omega) | exact dF (by omega)) rfl ?_ | refine O.cmp rfl rfl rfl rfl rfl ?_) | refine O.no rfl rfl rfl rfl ?_
    refine O.pick rfl rfl rfl rfl rfl ?_
    refine O.nil ?_
    try refine Run.keep [0,2,3,4,6,9,10,11,12,13,21,29,32,33,34,35,42] rfl rfl ?_
    repeat (first | refine Run.seq ?_ | refine Run.skip ?_)
    first | refine Run.condT rfl rfl ?_ | refine Run.condF rfl rfl ?_ | refine Run.condT rfl (by assumption) ?_ | refine Run.condF rfl (by assumption) ?_
    repeat (first | refine Run.seq ?_ | refine Run.skip ?_ | refine Run.block ?_)
    refine Run.region ?_
    refine O.move rfl rfl ?_
    refine O.move rfl rfl ?_
    refine O.slice hE T29 rfl T37 rfl rfl newest_pv rfl rfl rfl (by omega) (by omega) (by rw [hlm]; omega) hys rfl ?_
    first | refine O.lenN hE T29 rfl rfl rfl (by first | exact newest_pv | exact newest_gl rfl rfl | trivial) lenC rfl ?_ | refine O.lenLst hE T29 rfl rfl rfl (by first | exact newest_pv | exact newest_gl rfl rfl | trivial) rfl ?_
    refine O.move rfl rfl ?_
    refine O.nil ?_
    try refine Run.keep [0,2,3,4,6,9,10,11,12,13,21,29,32,33,34,35,42] rfl rfl ?_
    repeat (first | refine Run.seq ?_ | refine Run.skip ?_)
    refine Run.block ?_
    refine Run.loopInv (ι := Nat) (fun i => i ≤ j)
      (fun i => ⟨45, [(0, .pv (.lst 3 (cs.map kolE))), (4, .ptr 4 0), (10, .pv (.lst 3 (cs.map kolE))), (11, .pv (.int .i64 cs.length)), (12, .pv (.int .i64 j)), (32, .pv (.lst 3 (T.map kolE))), (33, .pv (.int .i64 T.length)), (34, .pv (.int .i64 i))], [(4, .var [.pv (.str ck), .pv (.int .i64 ckd), .pv (.bool cnl)])]⟩) (fun i => j - i) 0 (by omega) ?_ ?_
    ·
      exact SLe.drop (by repeat (first | exact TmIn.nil | refine TmIn.cons rfl ?_)) (by repeat (first | exact BxIn.nil | refine BxIn.cons rfl ?_)) rfl rfl
    rintro i hi ih2
    by_cases hlt2 : i < j
    ·
      obtain ⟨d, hd⟩ : ∃ d, T[i]? = some d := ⟨_, List.getElem?_eq_getElem (by omega)⟩
      have hat2 := kol_at hd
      have hne2 := hne i d hd
      obtain ⟨dk, dkd, dnl⟩ := d
      dsimp only at hne2
      dsimp only [kolE] at hat2
      repeat (first | refine Run.seq ?_ | refine Run.skip ?_ | refine Run.block ?_)
      refine Run.region ?_
      first | refine O.cmp rfl rfl rfl (by first | exact dT (by omega) | exact dF (by omega)) rfl ?_ | refine O.cmp rfl rfl rfl rfl rfl ?_
      refine O.nil ?_
      try refine Run.keep [0,2,3,4,6,9,10,11,12,13,21,29,32,33,34,35,42] rfl rfl ?_
      repeat (first | refine Run.seq ?_ | refine Run.skip ?_)
      first | refine Run.condT rfl rfl ?_ | refine Run.condF rfl rfl ?_ | refine Run.condT rfl (by assumption) ?_ | refine Run.condF rfl (by assumption) ?_
      repeat (first | refine Run.seq ?_ | refine Run.skip ?_ | refine Run.block ?_)
      refine Run.region ?_
      refine O.index hE T29 rfl T37 rfl rfl (by first | exact newest_pv | exact newest_gl rfl rfl | trivial) rfl (by omega) (by first | assumption | rfl) rfl rfl rfl ?_
      refine O.load hE T37 rfl rfl rfl rfl ?_
      refine O.alloc hE 6 T37 rfl rfl rfl ?_
      refine O.store hE T37 rfl rfl rfl rfl rfl rfl ?_
      refine O.nil ?_
      try refine Run.keep [0,2,3,4,6,9,10,11,12,13,21,29,32,33,34,35,42] rfl rfl ?_
      repeat (first | refine Run.seq ?_ | refine Run.skip ?_ | refine Run.block ?_)
      refine Run.region ?_
      refine O.field hE L37 rfl rfl rfl rfl ?_
      first | refine O.loadS hE T9 rfl rfl rfl (by rfl) rfl ?_ | refine O.loadE hE T9 rfl rfl (by rfl) rfl ?_ | refine O.load hE T9 rfl rfl rfl rfl ?_
      refine O.field hE L37 rfl rfl rfl rfl ?_
      first | refine O.loadS hE T9 rfl rfl rfl (by rfl) rfl ?_ | refine O.loadE hE T9 rfl rfl (by rfl) rfl ?_ | refine O.load hE T9 rfl rfl rfl rfl ?_
      refine O.strEqK rfl rfl hne2 rfl ?_
      refine O.nil ?_
      try refine Run.keep [0,2,3,4,6,9,10,11,12,13,21,29,32,33,34,35,42] rfl rfl ?_
      repeat (first | refine Run.seq ?_ | refine Run.skip ?_)
      first | refine Run.condT rfl rfl ?_ | refine Run.condF rfl rfl ?_ | refine Run.condT rfl (by assumption) ?_ | refine Run.condF rfl (by assumption) ?_
      repeat (first | refine Run.seq ?_ | refine Run.skip ?_ | refine Run.block ?_)
      refine Run.region ?_
      first | refine O.ar rfl rfl rfl (by exact wrap_i64 (by omega) (by omega)) rfl ?_ | refine O.ar rfl rfl rfl rfl rfl ?_
      refine O.move rfl rfl ?_
      refine O.nil ?_
      try refine Run.keep [0,2,3,4,6,9,10,11,12,13,21,29,32,33,34,35,42] rfl rfl ?_
      refine ih2 (i + 1) _ ?_ (by omega) (by omega)
      exact SLe.drop (by repeat (first | exact TmIn.nil | refine TmIn.cons rfl ?_)) (by repeat (first | exact BxIn.nil | refine BxIn.cons rfl ?_)) rfl rfl
    have hi' : i = T.length := by omega
    subst hi'
    repeat (first | refine Run.seq ?_ | refine Run.skip ?_ | refine Run.block ?_)
    refine Run.region ?_
    first | refine O.cmp rfl rfl rfl (by first | exact dT (by omega) | exact dF (by omega)) rfl ?_ | refine O.cmp rfl rfl rfl rfl rfl ?_
    refine O.nil ?_
    try refine Run.keep [0,2,3,4,6,9,10,11,12,13,21,29,32,33,34,35,42] rfl rfl ?_
    repeat (first | refine Run.seq ?_ | refine Run.skip ?_)
    first | refine Run.condT rfl rfl ?_ | refine Run.condF rfl rfl ?_ | refine Run.condT rfl (by assumption) ?_ | refine Run.condF rfl (by assumption) ?_
    refine Run.exit ?_
    repeat (first | refine thenR_exit ?_ | refine roundR_exit ?_ | refine blockR_exit ?_ | refine blockR_pass rfl ?_)
    repeat (first | refine Run.seq ?_ | refine Run.skip ?_ | refine Run.block ?_)
    refine Run.region ?_
    first | refine O.ar rfl rfl rfl (by exact wrap_i64 (by omega) (by omega)) rfl ?_ | refine O.ar rfl rfl rfl rfl rfl ?_
    refine O.move rfl rfl ?_
    refine O.nil ?_
    try refine Run.keep [0,2,3,4,6,9,10,11,12,13,21,29,32,33,34,35,42] rfl rfl ?_
    refine ih (j + 1) _ ?_ (by omega) (by omega)
    exact SLe.drop (by repeat (first | exact TmIn.nil | refine TmIn.cons rfl ?_)) (by repeat (first | exact BxIn.nil | refine BxIn.cons rfl ?_)) rfl rfl
  have hj' : j = cs.length := by omega
  subst hj'
  repeat (first | refine Run.seq ?_ | refine Run.skip ?_ | refine Run.block ?_)
  refine Run.region ?_
  first | refine O.cmp rfl rfl rfl (by first | exact dT (by omega) | exact dF (by omega)) rfl ?_ | refine O.cmp rfl rfl rfl rfl rfl ?_
  refine O.nil ?_
  try refine Run.keep [0,2,3,4,6,9,10,11,12,13,21,29,32,33,34,35,42] rfl rfl ?_
  repeat (first | refine Run.seq ?_ | refine Run.skip ?_)
  first | refine Run.condT rfl rfl ?_ | refine Run.condF rfl rfl ?_ | refine Run.condT rfl (by assumption) ?_ | refine Run.condF rfl (by assumption) ?_
  refine Run.exit ?_
  repeat (first | refine thenR_exit ?_ | refine roundR_exit ?_ | refine blockR_exit ?_ | refine blockR_pass rfl ?_)
  repeat (first | refine Run.seq ?_ | refine Run.skip ?_ | refine Run.block ?_)
  refine Run.region ?_
  refine O.assign rfl rfl ?_
  refine O.nil ?_
  try refine Run.keep [0,2,3,4,6,9,10,11,12,13,21,29,32,33,34,35,42] rfl rfl ?_
  (repeat (first | refine Run.seq ?_ | refine Run.skip ?_)); (try refine Run.ret ?_); first | exact Ends.flat hE (.inr rfl) rfl rfl (AVle.of_eq rfl) rfl | exact Ends.flat hE (.inl rfl) rfl rfl (AVle.of_eq rfl) rfl
end Go.Proofs.YtdigejpgjnhclaaDoor.Vm
end
section
section
namespace Go.Proofs.YtdigejpgjnhclaaDoor.Vm
open Go Go.RowKit
set_option linter.unusedVariables false
set_option linter.unusedSimpArgs false
section
variable {P : Program} {g : Gb} {s s1 s' : St} {cx : Cx} {a : Act} {w : World} {G : Gh}
end
section
variable {E : Env} {n : Nat} {tm : List (Nat × AV)} {bx : List (Nat × Box)} {ops : Array Oper} {l : List Oper} {d : Tmp} {ty : TypeId} {pos : String} {after : Array Edge}
theorem D.sliceS {Θ : List Rec → St → Prop} {t : TypeId} {y : Operand} {lo hi : Option Operand} {i : TI} {s s' : ByteArray} {a b : Int} (hE : E.Ok) (ht : E.T t = some i) (hk : i.desc = .strg) (hy : evO E tm y = some (.pv (.str s))) (hlo : bndO E tm 0 lo = some a) (hhi : bndO E tm s.size hi = some b)
    (h0 : 0 ≤ a) (h1 : a ≤ b) (h2 : b ≤ s.size) (hys : s.extract a.toNat b.toNat = s') (hd : Nat.blt d n = true)
    (h : Dr E.P E.g ops l ⟨n, (d, .pv (.str s')) :: tm, bx⟩ (fun rs => Θ (⟨rtsOf E tm (y :: (lo.toList ++ hi.toList)), [], [], some d, .pv (.str s'), []⟩ :: rs))) : Dr E.P E.g ops (⟨some d, .slice t y lo hi none, ty, pos, after, none⟩ :: l) ⟨n, tm, bx⟩ Θ :=
  D.of (rt := rtsOf E tm (y :: (lo.toList ++ hi.toList))) (rb := []) (rts_now _) none_met hd (fun s2 hs _ hd' => OpOk.sliceStr (s := s2) (hE.t _ _ ht) hk (evO_ok (n := s2.n) (bx := s2.bx) (rts_ev (by simp) hy hs)) (bndO_ok (n := s2.n) (bx := s2.bx) (bnd_rts hlo (fun z hz => by subst hz; simp) hs)) (bndO_ok (n := s2.n) (bx := s2.bx) (bnd_rts hhi (fun z hz => by subst hz; simp) hs)) h0 h1 h2 hys (fun t ht => by obtain rfl := Option.some.inj ht; exact hd')) h
theorem D.minI {Θ : List Rec → St → Prop} {x y : Operand} {ts : Array TypeId} {k k' : IntKind} {m j r : Int} (hx : evO E tm x = some (.pv (.int k m))) (hy : evO E tm y = some (.pv (.int k' j))) (hr : (if j < m then j else m) = r) (hd : Nat.blt d n = true)
    (h : Dr E.P E.g ops l ⟨n, (d, .pv (.int k r)) :: tm, bx⟩ (fun rs => Θ (⟨rtOf x (.pv (.int k m)) ++ rtOf y (.pv (.int k' j)), [], [], some d, .pv (.int k r), []⟩ :: rs))) :
    Dr E.P E.g ops (⟨some d, .call { callee := .builtin .min, args := #[x, y], argTypes := ts }, ty, pos, after, none⟩ :: l) ⟨n, tm, bx⟩ Θ := by
  subst hr
  refine D.of (rt := rtOf x (.pv (.int k m)) ++ rtOf y (.pv (.int k' j))) (rb := []) (fun w hw => (List.mem_append.1 hw).elim (rt_now hx w) (rt_now hy w)) none_met hd (fun s hs _ hd' => ?_) h
  have ex := rt_ev hx (fun p hp => hs p (mem_l hp))
  have ey := rt_ev hy (fun p hp => hs p (mem_r hp))
  obtain ⟨e1, e2⟩ := flatsO_ok (E := E) (n := s.n) (tm := s.tm) (bx := s.bx) [x, y] (by simp [flatsO, ex, ey, AV.flat?, PV.val?])
  refine OpOk.now (s := s) (v := .int k (if j < m then j else m)) (by intros; intro h; cases h) e1 ?_ rfl (fun t ht => by obtain rfl := Option.some.inj ht; exact hd')
  have h2 : ∀ (ρ : Operand → Value), ρ x = .int k m → ρ y = .int k' j → Vm.now E.P (execOp ρ ⟨some d, .call { callee := .builtin .min, args := #[x, y], argTypes := ts }, ty, pos, after, none⟩) = some (.value (.int k (if j < m then j else m))) := fun ρ h1 h2 => now_call2 h1 h2 (fun _ => rfl)
  refine h2 _ ?_ ?_
  · rw [e2 x (by simp)]; simp [flO, ex, AV.flat?, PV.val?]
  · rw [e2 y (by simp)]; simp [flO, ey, AV.flat?, PV.val?]
theorem AVle.boxes {s s' : St} (hb : ∀ x q, s.lstOf x = some q → s'.lstOf x = some q) {x y : AV} (h : AVle s x y) : AVle s' x y := by
  induction h with
  | refl x => exact .refl x
  | any x => exact .any x
  | lst x sz xs h => exact .lst x sz xs (hb _ _ h)
  | nil sz => exact .nil sz
  | agg xs ys hl _ ih => exact .agg xs ys hl ih
  | tup xs ys hl _ ih => exact .tup xs ys hl ih
theorem AVles.boxes {s s' : St} (hb : ∀ x q, s.lstOf x = some q → s'.lstOf x = some q) {xs ys : List AV} (h : AVles s xs ys) : AVles s' xs ys := by
  induction h with
  | nil => exact .nil
  | cons h t ih => exact .cons (h.boxes hb) ih
/-- A call whose arguments are lists that these boxes hold, in a region whose order is drawn. -/
theorem D.callF {Θ : List Rec → St → Prop} {f : FuncId} {xs : Array Operand} {ts : Array TypeId} {as0 args : List AV} {r : AV} (rb : List (Nat × Box)) (hc : FnC E f args r []) (hargs : evsO E tm xs.toList = some as0) (hle : AVles ⟨0, [], rb⟩ as0 args) (hrb : BxIn bx rb) (hcl : closed args = true) (hdr : d2 r = true) (hd : Nat.blt d n = true)
    (h : Dr E.P E.g ops l ⟨n, (d, r) :: tm, bx⟩ (fun rs => Θ (⟨rtsOf E tm xs.toList, rb, [], some d, r, []⟩ :: rs))) :
    Dr E.P E.g ops (⟨some d, .call { callee := .value (.func f), args := xs, argTypes := ts }, ty, pos, after, none⟩ :: l) ⟨n, tm, bx⟩ Θ := by
  obtain ⟨fn, h1, h2, h3⟩ := hc.fn
  have hall : ∀ (l : List (Nat × Box)), BxIn bx l → ∀ p ∈ l, look bx p.1 = some p.2 := by
    intro l hl
    induction hl with
    | nil => intro p hp; simp at hp
    | cons h r ih =>
      intro p hp
      cases hp with
      | head => exact h
      | tail _ hp => exact ih p hp
  refine Dr.cons (r := ⟨rtsOf E tm xs.toList, rb, [], some d, r, []⟩) (.plain rfl rfl fun s hs => ?_) (met_mk (rts_now _) (hall rb hrb) none_new hd) h
  have := OpOk.call (s := s) (P := E.P) (g := E.g) (d := d) (xs := xs) (ts := ts) (ty := ty) (pos := pos) (after := after) (gd := none) 0 hc.ok h1 h2 h3 (by
    rw [evsO_rts _ _ hargs s hs.t]
    refine hle.boxes fun x q hq => ?_
    cases x with
    | pv p => cases p <;> first | exact hq | (simp [St.lstOf] at hq)
    | gl b m =>
      simp only [St.lstOf] at hq ⊢
      cases hl : look rb b with
      | none => rw [hl] at hq; cases hq
      | some B =>
        rw [hl] at hq
        rw [hs.b (b, B) (look_in hl)]
        exact hq
    | _ => simp [St.lstOf] at hq) hcl rfl rfl hdr rfl (hs.d d rfl)
  rw [sh3_zero] at this
  exact this
theorem rts_tail {x : Operand} {xs : List Operand} {p : Nat × AV} (hp : p ∈ rtsOf E tm xs) : p ∈ rtsOf E tm (x :: xs) := by
  cases x with
  | tmp t =>
    simp only [rtsOf]
    split
    · exact List.mem_cons_of_mem _ hp
    · exact hp
  | const v => exact hp
  | global k => exact hp
  | func f => exact hp
theorem fillO_mono {place : Nat → Option (Nat × Nat)} {s : St} : ∀ (ps : List (Nat × Operand)) (cells r : List AV), fillO E place tm cells ps = some r → (∀ p ∈ rtsOf E tm (ps.map (·.2)), look s.tm p.1 = some p.2) → fillO E place s.tm cells ps = some r
  | [], cells, r, h, _ => h
  | (i, x) :: rest, cells, r, h, hs => by
    simp only [fillO] at h ⊢
    split at h
    · rename_i off size ys h1 h2
      split at h
      · rename_i c h3 h4
        rw [Option.bind_eq_some_iff] at h2
        obtain ⟨y, hy, h2⟩ := h2
        have e1 : evO E s.tm x = some y := by
          cases x with
          | tmp t => exact hs (t, y) (by simp only [List.map_cons, rtsOf]; rw [show look tm t = some y from hy]; simp)
          | const v => exact hy
          | global k => exact hy
          | func f => exact hy
        have e2 := fillO_mono (s := s) rest c r h (fun p hp => hs p (by rw [List.map_cons]; exact rts_tail hp))
        rw [h1, e1]
        simp only [Option.bind_some, h2, h3, h4]
        exact e2
      · cases h
    · cases h
theorem D.build {Θ : List Rec → St → Prop} {t : TypeId} {parts : Array (Nat × Operand)} {i : TI} {ls : List (Nat × Nat)} {zs cs : List AV} (hE : E.Ok) (ht : E.T t = some i) (hl : E.L t = some ls) (hz : pvsO i.zero = some zs) (hf : fillO E (fun j => ls[j]?) tm zs parts.toList = some cs) (hd : Nat.blt d n = true)
    (h : Dr E.P E.g ops l ⟨n, (d, .agg cs) :: tm, bx⟩ (fun rs => Θ (⟨rtsOf E tm (parts.toList.map (·.2)), [], [], some d, .agg cs, []⟩ :: rs))) : Dr E.P E.g ops (⟨some d, .build t parts, ty, pos, after, none⟩ :: l) ⟨n, tm, bx⟩ Θ :=
  D.of (rt := rtsOf E tm (parts.toList.map (·.2))) (rb := []) (rts_now _) none_met hd (fun s hs _ hd' => OpOk.build (s := s) (hE.t _ _ ht) (hE.l _ _ hl) (by rw [← pvsO_ok _ _ hz]; exact fillO_ok (n := s.n) (tm := s.tm) (bx := s.bx) _ _ _ (fillO_mono _ _ _ hf hs)) (fun t ht => by obtain rfl := Option.some.inj ht; exact hd')) h
end
end Go.Proofs.YtdigejpgjnhclaaDoor.Vm
end
section
namespace Go.Proofs.YtdigejpgjnhclaaDoor.Vm
open Go Go.RowKit Go.Lib
set_option linter.unusedVariables false
set_option linter.unusedSimpArgs false
attribute [local irreducible] Ops Dr Run
section
variable {E : Env} {n : Nat} {tm : List (Nat × AV)} {bx : List (Nat × Box)} {ops : Array Oper} {l : List Oper} {d : Tmp} {ty : TypeId} {pos : String} {after : Array Edge}
theorem D.nilK {Θ : List Rec → St → Prop} {y : Operand} {b o : Nat} (hy : evO E tm y = some (.ptr b o)) (hd : Nat.blt d n = true)
    (h : Dr E.P E.g ops l ⟨n, (d, .ptr b o) :: tm, bx⟩ (fun rs => Θ (⟨rtOf y (.ptr b o), [], [], some d, .ptr b o, []⟩ :: rs))) : Dr E.P E.g ops (⟨some d, .nilCheck y, ty, pos, after, none⟩ :: l) ⟨n, tm, bx⟩ Θ :=
  D.of (rt := rtOf y (.ptr b o)) (rb := []) (rt_now hy) none_met hd (fun s hs _ hd' => OpOk.nilCheck (s := s) (evO_ok (n := s.n) (bx := s.bx) (rt_ev hy hs)) (fun t ht => by obtain rfl := Option.some.inj ht; exact hd')) h
theorem D.remK {Θ : List Rec → St → Prop} {t t' : TypeId} {y z : Operand} {k : IntKind} {m j : Int} (hy : evO E tm y = some (.pv (.int k m))) (hz : evO E tm z = some (.pv (.int k j))) (h0 : 0 ≤ m) (hj : 0 < j) (hd : Nat.blt d n = true)
    (h : Dr E.P E.g ops l ⟨n, (d, .pv (.int k (m % j))) :: tm, bx⟩ (fun rs => Θ (⟨rtOf y (.pv (.int k m)) ++ rtOf z (.pv (.int k j)), [], [], some d, .pv (.int k (m % j)), []⟩ :: rs))) : Dr E.P E.g ops (⟨some d, .binOp .rem t y z t', ty, pos, after, none⟩ :: l) ⟨n, tm, bx⟩ Θ := by
  refine D.bin (v := .int k (m % j)) hy hz rfl rfl (now_bin ?_) rfl hd h
  simp only [Go.binOp, ne_eq, not_true, if_false, Op.intDiv]
  rw [if_neg (by omega), ← Int.tmod_eq_emod_of_nonneg h0]; rfl
theorem D.quoK {Θ : List Rec → St → Prop} {t t' : TypeId} {y z : Operand} {k : IntKind} {m j q : Int} (hy : evO E tm y = some (.pv (.int k m))) (hz : evO E tm z = some (.pv (.int k j))) (h0 : 0 ≤ m) (hj : 0 < j) (hq : k.wrap (m / j) = q) (hd : Nat.blt d n = true)
    (h : Dr E.P E.g ops l ⟨n, (d, .pv (.int k q)) :: tm, bx⟩ (fun rs => Θ (⟨rtOf y (.pv (.int k m)) ++ rtOf z (.pv (.int k j)), [], [], some d, .pv (.int k q), []⟩ :: rs))) : Dr E.P E.g ops (⟨some d, .binOp .quo t y z t', ty, pos, after, none⟩ :: l) ⟨n, tm, bx⟩ Θ := by
  subst hq
  refine D.bin (v := .int k (k.wrap (m / j))) hy hz rfl rfl (now_bin ?_) rfl hd h
  simp only [Go.binOp, ne_eq, not_true, if_false, Op.intDiv]
  rw [if_neg (by omega), ← Int.tdiv_eq_ediv_of_nonneg h0]; rfl
end
variable {g : Nat → Option (List PV)}
abbrev rwA (r : Rw) : AV := .agg [.pv (.int .i64 r.kd), .pv (.int .i64 r.a), .pv (.int .i64 r.b), .pv (.str r.s)]
/-- A heap: its raw things, how many have been given, its columns. -/
abbrev hpV (rs : List Rw) (k : Int) (cs : List Kol) : Box := .var [.pv (.lst 4 (rs.map rawE)), .pv (.int .i64 k), .pv (.lst 3 (cs.map kolE))]
theorem nxt_ok {rs : List Rw} (h : ∀ r ∈ rs, RwOk r) {k : Int} (hk : 0 ≤ k ∧ k ≤ 1000000) : RwOk (nxt rs k) := by
  unfold nxt
  split
  · unfold RwOk
    dsimp only
    rw [IntKind.wrap_i64]
    omega
  · unfold RwOk; dsimp only; omega
theorem fnNextHp {rs : List Rw} (hl : rs.length ≤ 40) {cs : List Kol} {k : Int} (hk : 0 ≤ k ∧ k ≤ 1000000) : FnL (EnL Tryd.prog g [200]) 40 [.ptr 200 0] [(200, hpV rs k cs)] (rwA (nxt rs k)) [(200, hpV rs (k + 1) cs)] := by
  have hE := EnLOk g [200]
  have hL : ((rs.map rawE).length : Int) = rs.length := by simp
  by_cases hr : rs = []
  ·
    subst hr
    rw [show nxt [] k = ⟨0, k + 1, k + 1, noS⟩ from rfl]
    refine FnL.of Tryd.func40 rfl rfl rfl rfl ?_
    repeat (first | refine Run.seq ?_ | refine Run.skip ?_ | refine Run.block ?_)
    refine Run.region ?_
    refine O.alloc hE 2 T51 rfl rfl rfl ?_
    refine O.nil ?_
    try refine Run.keep [0,2,3,16] rfl rfl ?_
    repeat (first | refine Run.seq ?_ | refine Run.skip ?_ | refine Run.block ?_)
    refine Run.region ?_
    refine O.move rfl rfl ?_
    refine O.nilCheck rfl rfl ?_
    refine O.field hE L60 rfl rfl rfl rfl ?_
    first | refine O.loadS hE T3 rfl rfl rfl (by rfl) rfl ?_ | refine O.loadE hE T3 rfl rfl (by rfl) rfl ?_ | refine O.load hE T3 rfl rfl rfl rfl ?_
    first | refine O.ar rfl rfl rfl (by exact wrap_i64 (by omega) (by omega)) rfl ?_ | refine O.ar rfl rfl rfl rfl rfl ?_
    refine O.nilCheck rfl rfl ?_
    refine O.field hE L60 rfl rfl rfl rfl ?_
    refine O.store hE T3 rfl rfl rfl rfl rfl rfl ?_
    refine O.nil ?_
    try refine Run.keep [0,2,3,16] rfl rfl ?_
    repeat (first | refine Run.seq ?_ | refine Run.skip ?_ | refine Run.block ?_)
    refine Run.region ?_
    refine O.move rfl rfl ?_
    refine O.nilCheck rfl rfl ?_
    refine O.field hE L60 rfl rfl rfl rfl ?_
    first | refine O.loadS hE T22 rfl rfl rfl (by rfl) rfl ?_ | refine O.loadE hE T22 rfl rfl (by rfl) rfl ?_ | refine O.load hE T22 rfl rfl rfl rfl ?_
    first | refine O.lenN hE T22 rfl rfl rfl (by first | exact newest_pv | exact newest_gl rfl rfl | trivial) lenC rfl ?_ | refine O.lenLst hE T22 rfl rfl rfl (by first | exact newest_pv | exact newest_gl rfl rfl | trivial) rfl ?_
    first | refine O.cmp rfl rfl rfl (by first | exact dT (by omega) | exact dF (by omega)) rfl ?_ | refine O.cmp rfl rfl rfl rfl rfl ?_
    refine O.nil ?_
    try refine Run.keep [0,2,3,16] rfl rfl ?_
    repeat (first | refine Run.seq ?_ | refine Run.skip ?_)
    first | refine Run.condT rfl rfl ?_ | refine Run.condF rfl rfl ?_ | refine Run.condT rfl (by assumption) ?_ | refine Run.condF rfl (by assumption) ?_
    repeat (first | refine Run.seq ?_ | refine Run.skip ?_ | refine Run.block ?_)
    refine Run.draw mixed rfl ?_
    refine D.move rfl rfl ?_
    refine D.nilK rfl rfl ?_
    refine D.field hE L60 rfl rfl rfl rfl ?_
    first | refine D.loadS hE T3 rfl rfl rfl (by rfl) rfl ?_ | refine D.loadE hE T3 rfl rfl (by rfl) rfl ?_ | refine D.load hE T3 rfl rfl rfl rfl ?_
    refine D.move rfl rfl ?_
    refine D.nilK rfl rfl ?_
    refine D.field hE L60 rfl rfl rfl rfl ?_
    first | refine D.loadS hE T3 rfl rfl rfl (by rfl) rfl ?_ | refine D.loadE hE T3 rfl rfl (by rfl) rfl ?_ | refine D.load hE T3 rfl rfl rfl rfl ?_
    refine D.build hE T51 L51 rfl rfl rfl ?_
    refine D.store hE T51 rfl rfl rfl rfl rfl rfl ?_
    refine Dr.nil ?_
    refine ⟨rfl, ?_⟩
    try refine Run.keep [0,2,3,16] rfl rfl ?_
    refine Run.ret ?_
    exact Ends.of hE (.inr rfl) rfl rfl (SLe.drop (by repeat (first | exact TmIn.nil | refine TmIn.cons rfl ?_)) (by repeat (first | exact BxIn.nil | refine BxIn.cons rfl ?_)) rfl rfl)
  ·
    have hpos : 0 < rs.length := List.length_pos_iff.2 hr
    have hm0 : 0 ≤ k % (rs.length : Int) := Int.emod_nonneg _ (by omega)
    have hm1 : k % (rs.length : Int) < rs.length := Int.emod_lt_of_pos _ (by omega)
    have hq0 : 0 ≤ (k + 1) / (rs.length : Int) := Int.ediv_nonneg (by omega) (by omega)
    have hq1 : (k + 1) / (rs.length : Int) ≤ k + 1 := Int.ediv_le_self _ (by omega)
    have hqw := wrap_i64 (x := (k + 1) / (rs.length : Int)) (by omega) (by omega)
    obtain ⟨r, hr⟩ : ∃ r, rs[(k % (rs.length : Int)).toNat]? = some r := ⟨_, List.getElem?_eq_getElem (by omega)⟩
    rw [show nxt rs k = ⟨r.kd, IntKind.i64.wrap (r.a + (k + 1) / (rs.length : Int)), r.b, r.s⟩ by unfold nxt; rw [hr]]
    have hat : (rs.map rawE)[((k + 1 - 1) % (rs.length : Int)).toNat]? = some (rawE r) := by
      rw [show k + 1 - 1 = k by omega, List.getElem?_map, hr]; rfl
    have hm2 : 0 ≤ (k + 1 - 1) % (rs.length : Int) := by rw [show k + 1 - 1 = k by omega]; exact hm0
    clear hm0 hm1
    obtain ⟨rk, ra, rb, rt⟩ := r
    dsimp only [rawE] at hat ⊢
    generalize (rs.length : Int) = L at *
    have hLp : 0 < L := by
      rcases Int.lt_or_le 0 L with h | h
      · exact h
      · have := hL.symm ▸ h
        rw [List.length_map] at this
        omega
    refine FnL.of Tryd.func40 rfl rfl rfl rfl ?_
    repeat (first | refine Run.seq ?_ | refine Run.skip ?_ | refine Run.block ?_)
    refine Run.region ?_
    refine O.alloc hE 2 T51 rfl rfl rfl ?_
    refine O.nil ?_
    try refine Run.keep [0,2,3,16] rfl rfl ?_
    repeat (first | refine Run.seq ?_ | refine Run.skip ?_ | refine Run.block ?_)
    refine Run.region ?_
    refine O.move rfl rfl ?_
    refine O.nilCheck rfl rfl ?_
    refine O.field hE L60 rfl rfl rfl rfl ?_
    first | refine O.loadS hE T3 rfl rfl rfl (by rfl) rfl ?_ | refine O.loadE hE T3 rfl rfl (by rfl) rfl ?_ | refine O.load hE T3 rfl rfl rfl rfl ?_
    first | refine O.ar rfl rfl rfl (by exact wrap_i64 (by omega) (by omega)) rfl ?_ | refine O.ar rfl rfl rfl rfl rfl ?_
    refine O.nilCheck rfl rfl ?_
    refine O.field hE L60 rfl rfl rfl rfl ?_
    refine O.store hE T3 rfl rfl rfl rfl rfl rfl ?_
    refine O.nil ?_
    try refine Run.keep [0,2,3,16] rfl rfl ?_
    repeat (first | refine Run.seq ?_ | refine Run.skip ?_ | refine Run.block ?_)
    refine Run.region ?_
    refine O.move rfl rfl ?_
    refine O.nilCheck rfl rfl ?_
    refine O.field hE L60 rfl rfl rfl rfl ?_
    first | refine O.loadS hE T22 rfl rfl rfl (by rfl) rfl ?_ | refine O.loadE hE T22 rfl rfl (by rfl) rfl ?_ | refine O.load hE T22 rfl rfl rfl rfl ?_
    refine O.lenN hE T22 rfl rfl rfl newest_pv hL rfl ?_
    first | refine O.cmp rfl rfl rfl (by first | exact dT (by omega) | exact dF (by omega)) rfl ?_ | refine O.cmp rfl rfl rfl rfl rfl ?_
    refine O.nil ?_
    try refine Run.keep [0,2,3,16] rfl rfl ?_
    repeat (first | refine Run.seq ?_ | refine Run.skip ?_)
    first | refine Run.condT rfl rfl ?_ | refine Run.condF rfl rfl ?_ | refine Run.condT rfl (by assumption) ?_ | refine Run.condF rfl (by assumption) ?_
    repeat (first | refine Run.seq ?_ | refine Run.skip ?_ | refine Run.block ?_)
    refine Run.draw mixed rfl ?_
    refine D.move rfl rfl ?_
    refine D.nilK rfl rfl ?_
    refine D.field hE L60 rfl rfl rfl rfl ?_
    first | refine D.loadS hE T22 rfl rfl rfl (by rfl) rfl ?_ | refine D.loadE hE T22 rfl rfl (by rfl) rfl ?_ | refine D.load hE T22 rfl rfl rfl rfl ?_
    refine D.move rfl rfl ?_
    refine D.nilK rfl rfl ?_
    refine D.field hE L60 rfl rfl rfl rfl ?_
    first | refine D.loadS hE T3 rfl rfl rfl (by rfl) rfl ?_ | refine D.loadE hE T3 rfl rfl (by rfl) rfl ?_ | refine D.load hE T3 rfl rfl rfl rfl ?_
    first | refine D.ar rfl rfl rfl (by exact wrap_i64 (by omega) (by omega)) rfl ?_ | refine D.ar rfl rfl rfl rfl rfl ?_
    refine D.move rfl rfl ?_
    refine D.nilK rfl rfl ?_
    refine D.field hE L60 rfl rfl rfl rfl ?_
    first | refine D.loadS hE T22 rfl rfl rfl (by rfl) rfl ?_ | refine D.loadE hE T22 rfl rfl (by rfl) rfl ?_ | refine D.load hE T22 rfl rfl rfl rfl ?_
    refine D.lenK hE T22 rfl rfl hL rfl ?_
    refine D.remK rfl rfl (by omega) hLp rfl ?_
    refine D.index hE T22 rfl T51 rfl rfl newest_pv rfl hm2 hat rfl rfl rfl ?_
    refine D.load hE T51 rfl rfl rfl rfl ?_
    refine D.alloc hE 3 T51 rfl rfl rfl ?_
    refine D.store hE T51 rfl rfl rfl rfl rfl rfl ?_
    refine Dr.nil ?_
    refine ⟨rfl, ?_⟩
    try refine Run.keep [0,2,3,16] rfl rfl ?_
    repeat (first | refine Run.seq ?_ | refine Run.skip ?_ | refine Run.block ?_)
    refine Run.draw mixed rfl ?_
    refine D.field hE L51 rfl rfl rfl rfl ?_
    first | refine D.loadS hE T3 rfl rfl rfl (by rfl) rfl ?_ | refine D.loadE hE T3 rfl rfl (by rfl) rfl ?_ | refine D.load hE T3 rfl rfl rfl rfl ?_
    refine D.move rfl rfl ?_
    refine D.nilK rfl rfl ?_
    refine D.field hE L60 rfl rfl rfl rfl ?_
    first | refine D.loadS hE T3 rfl rfl rfl (by rfl) rfl ?_ | refine D.loadE hE T3 rfl rfl (by rfl) rfl ?_ | refine D.load hE T3 rfl rfl rfl rfl ?_
    refine D.move rfl rfl ?_
    refine D.nilK rfl rfl ?_
    refine D.field hE L60 rfl rfl rfl rfl ?_
    first | refine D.loadS hE T22 rfl rfl rfl (by rfl) rfl ?_ | refine D.loadE hE T22 rfl rfl (by rfl) rfl ?_ | refine D.load hE T22 rfl rfl rfl rfl ?_
    refine D.lenK hE T22 rfl rfl hL rfl ?_
    refine D.quoK rfl rfl (by omega) hLp hqw rfl ?_
    refine D.ar rfl rfl rfl rfl rfl ?_
    refine D.field hE L51 rfl rfl rfl rfl ?_
    refine D.store hE T3 rfl rfl rfl rfl rfl rfl ?_
    refine Dr.nil ?_
    refine ⟨rfl, ?_⟩
    try refine Run.keep [0,2,3,16] rfl rfl ?_
    repeat (first | refine Run.seq ?_ | refine Run.skip ?_ | refine Run.block ?_)
    refine Run.region ?_
    refine O.load hE T51 rfl rfl rfl rfl ?_
    refine O.store hE T51 rfl rfl rfl rfl rfl rfl ?_
    refine O.nil ?_
    try refine Run.keep [0,2,3,16] rfl rfl ?_
    refine Run.ret ?_
    exact Ends.of hE (.inr rfl) rfl rfl (SLe.drop (by repeat (first | exact TmIn.nil | refine TmIn.cons rfl ?_)) (by repeat (first | exact BxIn.nil | refine BxIn.cons rfl ?_)) rfl rfl)
theorem fnOp1 {op : Int} (a : Xp) : FnC (En Tryd.prog g) 23 [.pv (.int .i64 op), xA a] (xA (.un op a)) [] := by
  have hE := EnOk g
  exact FnC.go hE mixed Tryd.func23 []
theorem fnOp2 {op : Int} (a b : Xp) : FnC (En Tryd.prog g) 15 [.pv (.int .i64 op), xA a, xA b] (xA (.bi op a b)) [] := by
  have hE := EnOk g
  exact FnC.go hE mixed Tryd.func15 []
end Go.Proofs.YtdigejpgjnhclaaDoor.Vm
end
end
end
section
namespace Go.Proofs.YtdigejpgjnhclaaDoor.Vm
open Go Go.RowKit Go.Lib
set_option linter.unusedVariables false
set_option linter.unusedSimpArgs false
attribute [local irreducible] Ops Dr Run
/-- A function to which boxes are lent, of which some result is told. -/
theorem FnL.ofEx {E : Env} {f : FuncId} {fn : Func} {c : Code} {args : List AV} {bi bo : List (Nat × Box)} {tm : List (Nat × AV)} {Q : AV → Prop} (hf : E.P.funcs[f]? = some fn) (hc : fn.body = some c) (hname : (fn.name == "runtime.NumGoroutine") = false) (hn : Nat.ble args.length fn.ntmps = true) (htm : params 0 args = tm)
    (h : Run E.P E.g c ⟨fn.ntmps, tm, bi⟩ (fun x s => ∃ r, Q r ∧ Ends E.P fn r bo x s)) : ∃ r, Q r ∧ FnL E f args bi r bo := by
  obtain ⟨x, s', h1, r, hq, he⟩ := (show ∃ x s', _ from by unfold Run at h; exact h)
  exact ⟨r, hq, FnL.of hf hc hname hn htm (by unfold Run; exact ⟨x, s', h1, he⟩)⟩
section
variable {E : Env} {n : Nat} {tm : List (Nat × AV)} {bx : List (Nat × Box)} {ops : Array Oper} {l : List Oper} {d : Tmp} {ty : TypeId} {pos : String} {after : Array Edge}
/-- Whatever is assigned, nothing is told of it. -/
theorem O.assignN {Θ : St → Prop} {y : Operand} (hd : Nat.blt d n = true) (h : Ops E.P E.g ops l ⟨n, (d, .any) :: tm, bx⟩ Θ) : Ops E.P E.g ops (⟨some d, .assign y, ty, pos, after, none⟩ :: l) ⟨n, tm, bx⟩ Θ :=
  Ops.op rfl (OpOk.val (o := ⟨some d, .assign y, ty, pos, after, none⟩) (dlt hd) (fun cx a w G hP hg hs => ⟨a.eval y, rfl, .any _⟩)) h
end
theorem and_max {a : Int} (h : -9223372036854775808 ≤ a ∧ a ≤ 9223372036854775807) : ∃ q : Int, bitI .and .i64 a 9223372036854775807 = some q ∧ 0 ≤ q ∧ q ≤ 9223372036854775807 := by
  have h0 : bitI .and .i64 a 9223372036854775807 = some (IntKind.i64.wrap ((BitVec.ofInt 64 a &&& BitVec.ofInt 64 9223372036854775807).toNat : Int)) := rfl
  refine ⟨_, h0, ?_⟩
  have h1 : (BitVec.ofInt 64 a &&& BitVec.ofInt 64 9223372036854775807).toNat ≤ 9223372036854775807 := by
    rw [BitVec.toNat_and]
    refine Nat.le_trans Nat.and_le_right ?_
    decide
  rw [wrap_i64 (by omega) (by omega)]
  omega
variable {g : Nat → Option (List PV)}
theorem good_int {v : Vl} (h : Good v) (hk : v.kd = 2) : ∃ n, v = ⟨2, n, 0, noS⟩ ∧ (-9223372036854775808 ≤ n ∧ n ≤ 9223372036854775807) := by
  cases h with
  | int n hn => exact ⟨n, rfl, hn⟩
  | null => cases hk
  | bool => cases hk
  | real => cases hk
  | text => cases hk
theorem good_nn {v : Vl} (h : Good v) (hk : v.kd ≠ 2) : 0 ≤ v.n := by
  cases h with
  | int n hn => exact absurd rfl hk
  | null => decide
  | bool n hn => show 0 ≤ n; omega
  | real => exact Int.le_refl 0
  | text => exact Int.le_refl 0
theorem leaf_ex {rs : List Rw} {cs : List Kol} (hcs : ColsOk cs) {k : Int} (hk : 1 ≤ k ∧ k ≤ 4) {r : Rw} (hr : RwOk r) {m : Int} : ∃ x : Xp, Ty cs k x ∧ x.dp = 1 ∧
    FnL (EnL Tryd.prog g [200]) 41 [.ptr 200 0, .pv (.int .i64 k), rwA r] [(200, hpV rs m cs)] (xA x) [(200, hpV rs m cs)] := by
  have hE := EnLOk g [200]
  suffices h : ∃ w, (∃ x : Xp, (Ty cs k x ∧ x.dp = 1) ∧ w = xA x) ∧ FnL (EnL Tryd.prog g [200]) 41 [.ptr 200 0, .pv (.int .i64 k), rwA r] [(200, hpV rs m cs)] w [(200, hpV rs m cs)] by
    obtain ⟨_, ⟨x, h1, rfl⟩, h2⟩ := h
    exact ⟨x, h1.1, h1.2, h2⟩
  have hlen := hcs.len
  have hlm : (cs.map kolE).length = cs.length := by simp
  obtain ⟨v, hv, hvk, cv⟩ := valOf_exK (g := g) hr (kd := k) (by omega) (by omega)
  have c1 := fun (j : Nat) (hj : j ≤ 5) => (fnPick (g := g) (a := r.a) (m := 2 + (j : Int)) (by omega) (by omega)).lent [200]
  have c9 := (fnPick (g := g) (a := r.b) (m := 9) (by omega) (by omega)).lent [200]
  have c4 := (fnPick (g := g) (a := r.b) (m := 4) (by omega) (by omega)).lent [200]
  have c20 := (fnPick (g := g) (a := r.a) (m := 20) (by omega) (by omega)).lent [200]
  have cv := cv.lent [200]
  obtain ⟨qm, hqm, hq0, hq1⟩ := and_max hr
  have h20 : 0 ≤ r.a % 20 ∧ r.a % 20 < 20 := by omega
  generalize r.a % 20 = z20 at *
  generalize r.b % 9 = z9 at *
  generalize r.b % 4 = z4 at *
  obtain ⟨rk, ra, rb, rt⟩ := r
  dsimp only at c1 cv hqm ⊢
  refine FnL.ofEx Tryd.func41 rfl rfl rfl rfl ?_
  repeat (first | refine Run.seq ?_ | refine Run.skip ?_ | refine Run.block ?_)
  refine Run.region ?_
  refine O.box 5 rfl (by first | rfl | exact cells_ones (by simp [ones_app, ones_ints, ones, AV.one, PV.one])) rfl rfl ?_
  refine O.alloc hE 6 T28 rfl rfl rfl ?_
  refine O.nil ?_
  try refine Run.keep [0,1,2,5,6,7,8,9,13,14,15,16,31,39,45,58] rfl rfl ?_
  repeat (first | refine Run.seq ?_ | refine Run.skip ?_ | refine Run.block ?_)
  refine Run.region ?_
  refine O.move rfl rfl ?_
  refine O.nilCheck rfl rfl ?_
  refine O.field hE L60 rfl rfl rfl rfl ?_
  first | refine O.loadS hE T29 rfl rfl rfl (by rfl) rfl ?_ | refine O.loadE hE T29 rfl rfl (by rfl) rfl ?_ | refine O.load hE T29 rfl rfl rfl rfl ?_
  first | refine O.lenN hE T29 rfl rfl rfl (by first | exact newest_pv | exact newest_gl rfl rfl | trivial) lenC rfl ?_ | refine O.lenLst hE T29 rfl rfl rfl (by first | exact newest_pv | exact newest_gl rfl rfl | trivial) rfl ?_
  refine O.move rfl rfl ?_
  refine O.nil ?_
  try refine Run.keep [0,1,2,5,6,7,8,9,13,14,15,16,31,39,45,58] rfl rfl ?_
  repeat (first | refine Run.seq ?_ | refine Run.skip ?_)
  refine Run.block ?_
  refine Run.loopInv (ι := Nat) (fun j => j ≤ cs.length)
    (fun j => ⟨67, [(0, .ptr 200 0), (1, .pv (.int .i64 k)), (5, .ptr 5 0), (6, .ptr 6 0), (13, .pv (.lst 3 (cs.map kolE))), (14, .pv (.int .i64 cs.length)), (15, .pv (.int .i64 j))], [(200, hpV rs m cs), (6, .var [.pv (.int .i64 0), .pv (.int .i64 0), .pv (.int .i64 0), .pv (.int .u64 0), .pv (.str noS), .pv (.str noS), .pv .nil]), (5, .var [.pv (.int .i64 rk), .pv (.int .i64 ra), .pv (.int .i64 rb), .pv (.str rt)])]⟩) (fun j => cs.length - j) 0 (by omega) ?_ ?_
  ·
    exact SLe.drop (by repeat (first | exact TmIn.nil | refine TmIn.cons rfl ?_)) (by repeat (first | exact BxIn.nil | refine BxIn.cons rfl ?_)) rfl rfl
  rintro j hj ih
  by_cases hlt : j < cs.length
  ·
    obtain ⟨c, hc⟩ : ∃ c, cs[j]? = some c := ⟨_, List.getElem?_eq_getElem hlt⟩
    have hat := kol_at hc
    have hmem := List.mem_of_getElem? hc
    have hfc := findC_mem hcs.ap c hmem
    have hnm := (hcs.ok c hmem).1
    have c1 := c1 j (by omega)
    generalize ra % (2 + (j : Int)) = z at *
    obtain ⟨ck, ckd, cnl⟩ := c
    dsimp only [kolE] at hat
    dsimp only at hfc hnm
    by_cases hkk : ckd = k
    ·
      by_cases hz : z = 0
      ·
        repeat (first | refine Run.seq ?_ | refine Run.skip ?_ | refine Run.block ?_)
        refine Run.region ?_
        first | refine O.cmp rfl rfl rfl (by first | exact dT (by omega) | exact dF (by omega)) rfl ?_ | refine O.cmp rfl rfl rfl rfl rfl ?_
        refine O.nil ?_
        try refine Run.keep [0,1,2,5,6,7,8,9,13,14,15,16,31,39,45,58] rfl rfl ?_
        repeat (first | refine Run.seq ?_ | refine Run.skip ?_)
        first | refine Run.condT rfl rfl ?_ | refine Run.condF rfl rfl ?_ | refine Run.condT rfl (by assumption) ?_ | refine Run.condF rfl (by assumption) ?_
        repeat (first | refine Run.seq ?_ | refine Run.skip ?_ | refine Run.block ?_)
        refine Run.region ?_
        refine O.move rfl rfl ?_
        refine O.index hE T29 rfl T37 rfl rfl (by first | exact newest_pv | exact newest_gl rfl rfl | trivial) rfl (by omega) (by first | assumption | rfl) rfl rfl rfl ?_
        refine O.load hE T37 rfl rfl rfl rfl ?_
        refine O.alloc hE 8 T37 rfl rfl rfl ?_
        refine O.assign rfl rfl ?_
        refine O.store hE T37 rfl rfl rfl rfl rfl rfl ?_
        refine O.nil ?_
        try refine Run.keep [0,1,2,5,6,7,8,9,13,14,15,16,31,39,45,58] rfl rfl ?_
        repeat (first | refine Run.seq ?_ | refine Run.skip ?_ | refine Run.block ?_)
        refine Run.region ?_
        refine O.field hE L37 rfl rfl rfl rfl ?_
        first | refine O.loadS hE T3 rfl rfl rfl (by rfl) rfl ?_ | refine O.loadE hE T3 rfl rfl (by rfl) rfl ?_ | refine O.load hE T3 rfl rfl rfl rfl ?_
        refine O.move rfl rfl ?_
        first | refine O.cmp rfl rfl rfl (by first | exact dT (by omega) | exact dF (by omega)) rfl ?_ | refine O.cmp rfl rfl rfl rfl rfl ?_
        refine O.move rfl rfl ?_
        first | (refine O.yes rfl rfl (by trivial) ?_; refine O.field hE L51 rfl rfl rfl rfl ?_) | refine O.no rfl rfl rfl rfl ?_
        first | (refine O.yes rfl rfl (by trivial) ?_; first | refine O.loadS hE T3 rfl rfl rfl (by rfl) rfl ?_ | refine O.loadE hE T3 rfl rfl (by rfl) rfl ?_ | refine O.load hE T3 rfl rfl rfl rfl ?_) | refine O.no rfl rfl rfl rfl ?_
        first | (refine O.yes rfl rfl (by trivial) ?_; refine O.move rfl rfl ?_) | refine O.no rfl rfl rfl rfl ?_
        first | (refine O.yes rfl rfl (by trivial) ?_; first | refine O.ar rfl rfl rfl (by exact wrap_i64 (by omega) (by omega)) rfl ?_ | refine O.ar rfl rfl rfl rfl rfl ?_) | refine O.no rfl rfl rfl rfl ?_
        first | (refine O.yes rfl rfl (by trivial) ?_; refine O.callE c1 rfl (by first | rfl | simp [closed, men3, mens2_app, mens2_ints, mens2, men2, men1, mens1_app, mens1_ints, mens1]) (by first | rfl | simp [d2, ds1_ints, ds1_app, ds1, d1, ds0_app, ds0_ints, ds0, d0]) rfl ?_) | refine O.no rfl rfl rfl rfl ?_
        first | (refine O.yes rfl rfl (by trivial) ?_; first | refine O.cmp rfl rfl rfl (by first | exact dT (by omega) | exact dF (by omega)) rfl ?_ | refine O.cmp rfl rfl rfl rfl rfl ?_) | refine O.no rfl rfl rfl rfl ?_
        refine O.pick rfl rfl rfl rfl rfl ?_
        refine O.nil ?_
        try refine Run.keep [0,1,2,5,6,7,8,9,13,14,15,16,31,39,45,58] rfl rfl ?_
        repeat (first | refine Run.seq ?_ | refine Run.skip ?_)
        first | refine Run.condT rfl rfl ?_ | refine Run.condF rfl rfl ?_ | refine Run.condT rfl (by assumption) ?_ | refine Run.condF rfl (by assumption) ?_
        repeat (first | refine Run.seq ?_ | refine Run.skip ?_ | refine Run.block ?_)
        refine Run.region ?_
        refine O.field hE L37 rfl rfl rfl rfl ?_
        first | refine O.loadS hE T9 rfl rfl rfl (by rfl) rfl ?_ | refine O.loadE hE T9 rfl rfl (by rfl) rfl ?_ | refine O.load hE T9 rfl rfl rfl rfl ?_
        refine O.build hE T28 L28 rfl rfl rfl ?_
        refine O.store hE T28 rfl rfl rfl rfl rfl rfl ?_
        refine O.nil ?_
        try refine Run.keep [0,1,2,5,6,7,8,9,13,14,15,16,31,39,45,58] rfl rfl ?_
        refine Run.ret ?_
        repeat (first | refine thenR_ret ?_ | refine roundR_ret ?_ | refine blockR_ret ?_)
        exact ⟨_, ⟨.col ck, ⟨by rw [← hkk]; exact Ty.col (c := ⟨ck, ckd, cnl⟩) hfc hnm, rfl⟩, rfl⟩, Ends.of hE (.inr rfl) rfl rfl (SLe.by rfl (TmLe.cons (AVle.aggs (by repeat (first | exact AVles.nil | refine AVles.cons (AVle.of_eq rfl) ?_ | refine AVles.cons (AVle.nil _) ?_))) TmLe.nil) (BxsLe.cons rfl (.refl _) BxsLe.nil) rfl rfl)⟩
      ·
        repeat (first | refine Run.seq ?_ | refine Run.skip ?_ | refine Run.block ?_)
        refine Run.region ?_
        first | refine O.cmp rfl rfl rfl (by first | exact dT (by omega) | exact dF (by omega)) rfl ?_ | refine O.cmp rfl rfl rfl rfl rfl ?_
        refine O.nil ?_
        try refine Run.keep [0,1,2,5,6,7,8,9,13,14,15,16,31,39,45,58] rfl rfl ?_
        repeat (first | refine Run.seq ?_ | refine Run.skip ?_)
        first | refine Run.condT rfl rfl ?_ | refine Run.condF rfl rfl ?_ | refine Run.condT rfl (by assumption) ?_ | refine Run.condF rfl (by assumption) ?_
        repeat (first | refine Run.seq ?_ | refine Run.skip ?_ | refine Run.block ?_)
        refine Run.region ?_
        refine O.move rfl rfl ?_
        refine O.index hE T29 rfl T37 rfl rfl (by first | exact newest_pv | exact newest_gl rfl rfl | trivial) rfl (by omega) (by first | assumption | rfl) rfl rfl rfl ?_
        refine O.load hE T37 rfl rfl rfl rfl ?_
        refine O.alloc hE 8 T37 rfl rfl rfl ?_
        refine O.assign rfl rfl ?_
        refine O.store hE T37 rfl rfl rfl rfl rfl rfl ?_
        refine O.nil ?_
        try refine Run.keep [0,1,2,5,6,7,8,9,13,14,15,16,31,39,45,58] rfl rfl ?_
        repeat (first | refine Run.seq ?_ | refine Run.skip ?_ | refine Run.block ?_)
        refine Run.region ?_
        refine O.field hE L37 rfl rfl rfl rfl ?_
        first | refine O.loadS hE T3 rfl rfl rfl (by rfl) rfl ?_ | refine O.loadE hE T3 rfl rfl (by rfl) rfl ?_ | refine O.load hE T3 rfl rfl rfl rfl ?_
        refine O.move rfl rfl ?_
        first | refine O.cmp rfl rfl rfl (by first | exact dT (by omega) | exact dF (by omega)) rfl ?_ | refine O.cmp rfl rfl rfl rfl rfl ?_
        refine O.move rfl rfl ?_
        first | (refine O.yes rfl rfl (by trivial) ?_; refine O.field hE L51 rfl rfl rfl rfl ?_) | refine O.no rfl rfl rfl rfl ?_
        first | (refine O.yes rfl rfl (by trivial) ?_; first | refine O.loadS hE T3 rfl rfl rfl (by rfl) rfl ?_ | refine O.loadE hE T3 rfl rfl (by rfl) rfl ?_ | refine O.load hE T3 rfl rfl rfl rfl ?_) | refine O.no rfl rfl rfl rfl ?_
        first | (refine O.yes rfl rfl (by trivial) ?_; refine O.move rfl rfl ?_) | refine O.no rfl rfl rfl rfl ?_
        first | (refine O.yes rfl rfl (by trivial) ?_; first | refine O.ar rfl rfl rfl (by exact wrap_i64 (by omega) (by omega)) rfl ?_ | refine O.ar rfl rfl rfl rfl rfl ?_) | refine O.no rfl rfl rfl rfl ?_
        first | (refine O.yes rfl rfl (by trivial) ?_; refine O.callE c1 rfl (by first | rfl | simp [closed, men3, mens2_app, mens2_ints, mens2, men2, men1, mens1_app, mens1_ints, mens1]) (by first | rfl | simp [d2, ds1_ints, ds1_app, ds1, d1, ds0_app, ds0_ints, ds0, d0]) rfl ?_) | refine O.no rfl rfl rfl rfl ?_
        first | (refine O.yes rfl rfl (by trivial) ?_; first | refine O.cmp rfl rfl rfl (by first | exact dT (by omega) | exact dF (by omega)) rfl ?_ | refine O.cmp rfl rfl rfl rfl rfl ?_) | refine O.no rfl rfl rfl rfl ?_
        refine O.pick rfl rfl rfl rfl rfl ?_
        refine O.nil ?_
        try refine Run.keep [0,1,2,5,6,7,8,9,13,14,15,16,31,39,45,58] rfl rfl ?_
        repeat (first | refine Run.seq ?_ | refine Run.skip ?_)
        first | refine Run.condT rfl rfl ?_ | refine Run.condF rfl rfl ?_ | refine Run.condT rfl (by assumption) ?_ | refine Run.condF rfl (by assumption) ?_
        repeat (first | refine Run.seq ?_ | refine Run.skip ?_ | refine Run.block ?_)
        refine Run.region ?_
        first | refine O.ar rfl rfl rfl (by exact wrap_i64 (by omega) (by omega)) rfl ?_ | refine O.ar rfl rfl rfl rfl rfl ?_
        refine O.move rfl rfl ?_
        refine O.nil ?_
        try refine Run.keep [0,1,2,5,6,7,8,9,13,14,15,16,31,39,45,58] rfl rfl ?_
        refine ih (j + 1) _ ?_ (by omega) (by omega)
        exact SLe.drop (by repeat (first | exact TmIn.nil | refine TmIn.cons rfl ?_)) (by repeat (first | exact BxIn.nil | refine BxIn.cons rfl ?_)) rfl rfl
    ·
      repeat (first | refine Run.seq ?_ | refine Run.skip ?_ | refine Run.block ?_)
      refine Run.region ?_
      first | refine O.cmp rfl rfl rfl (by first | exact dT (by omega) | exact dF (by omega)) rfl ?_ | refine O.cmp rfl rfl rfl rfl rfl ?_
      refine O.nil ?_
      try refine Run.keep [0,1,2,5,6,7,8,9,13,14,15,16,31,39,45,58] rfl rfl ?_
      repeat (first | refine Run.seq ?_ | refine Run.skip ?_)
      first | refine Run.condT rfl rfl ?_ | refine Run.condF rfl rfl ?_ | refine Run.condT rfl (by assumption) ?_ | refine Run.condF rfl (by assumption) ?_
      repeat (first | refine Run.seq ?_ | refine Run.skip ?_ | refine Run.block ?_)
      refine Run.region ?_
      refine O.move rfl rfl ?_
      refine O.index hE T29 rfl T37 rfl rfl (by first | exact newest_pv | exact newest_gl rfl rfl | trivial) rfl (by omega) (by first | assumption | rfl) rfl rfl rfl ?_
      refine O.load hE T37 rfl rfl rfl rfl ?_
      refine O.alloc hE 8 T37 rfl rfl rfl ?_
      refine O.assign rfl rfl ?_
      refine O.store hE T37 rfl rfl rfl rfl rfl rfl ?_
      refine O.nil ?_
      try refine Run.keep [0,1,2,5,6,7,8,9,13,14,15,16,31,39,45,58] rfl rfl ?_
      repeat (first | refine Run.seq ?_ | refine Run.skip ?_ | refine Run.block ?_)
      refine Run.region ?_
      refine O.field hE L37 rfl rfl rfl rfl ?_
      first | refine O.loadS hE T3 rfl rfl rfl (by rfl) rfl ?_ | refine O.loadE hE T3 rfl rfl (by rfl) rfl ?_ | refine O.load hE T3 rfl rfl rfl rfl ?_
      refine O.move rfl rfl ?_
      first | refine O.cmp rfl rfl rfl (by first | exact dT (by omega) | exact dF (by omega)) rfl ?_ | refine O.cmp rfl rfl rfl rfl rfl ?_
      refine O.move rfl rfl ?_
      first | (refine O.yes rfl rfl (by trivial) ?_; refine O.field hE L51 rfl rfl rfl rfl ?_) | refine O.no rfl rfl rfl rfl ?_
      first | (refine O.yes rfl rfl (by trivial) ?_; first | refine O.loadS hE T3 rfl rfl rfl (by rfl) rfl ?_ | refine O.loadE hE T3 rfl rfl (by rfl) rfl ?_ | refine O.load hE T3 rfl rfl rfl rfl ?_) | refine O.no rfl rfl rfl rfl ?_
      first | (refine O.yes rfl rfl (by trivial) ?_; refine O.move rfl rfl ?_) | refine O.no rfl rfl rfl rfl ?_
      first | (refine O.yes rfl rfl (by trivial) ?_; first | refine O.ar rfl rfl rfl (by exact wrap_i64 (by omega) (by omega)) rfl ?_ | refine O.ar rfl rfl rfl rfl rfl ?_) | refine O.no rfl rfl rfl rfl ?_
      first | (refine O.yes rfl rfl (by trivial) ?_; refine O.no rfl rfl rfl rfl ?_) | refine O.no rfl rfl rfl rfl ?_
      first | (refine O.yes rfl rfl (by trivial) ?_; first | refine O.cmp rfl rfl rfl (by first | exact dT (by omega) | exact dF (by omega)) rfl ?_ | refine O.cmp rfl rfl rfl rfl rfl ?_) | refine O.no rfl rfl rfl rfl ?_
      refine O.pick rfl rfl rfl rfl rfl ?_
      refine O.nil ?_
      try refine Run.keep [0,1,2,5,6,7,8,9,13,14,15,16,31,39,45,58] rfl rfl ?_
      repeat (first | refine Run.seq ?_ | refine Run.skip ?_)
      first | refine Run.condT rfl rfl ?_ | refine Run.condF rfl rfl ?_ | refine Run.condT rfl (by assumption) ?_ | refine Run.condF rfl (by assumption) ?_
      repeat (first | refine Run.seq ?_ | refine Run.skip ?_ | refine Run.block ?_)
      refine Run.region ?_
      first | refine O.ar rfl rfl rfl (by exact wrap_i64 (by omega) (by omega)) rfl ?_ | refine O.ar rfl rfl rfl rfl rfl ?_
      refine O.move rfl rfl ?_
      refine O.nil ?_
      try refine Run.keep [0,1,2,5,6,7,8,9,13,14,15,16,31,39,45,58] rfl rfl ?_
      refine ih (j + 1) _ ?_ (by omega) (by omega)
      exact SLe.drop (by repeat (first | exact TmIn.nil | refine TmIn.cons rfl ?_)) (by repeat (first | exact BxIn.nil | refine BxIn.cons rfl ?_)) rfl rfl
  have hj' : j = cs.length := by omega
  subst hj'
  clear c1
  repeat (first | refine Run.seq ?_ | refine Run.skip ?_ | refine Run.block ?_)
  refine Run.region ?_
  first | refine O.cmp rfl rfl rfl (by first | exact dT (by omega) | exact dF (by omega)) rfl ?_ | refine O.cmp rfl rfl rfl rfl rfl ?_
  refine O.nil ?_
  try refine Run.keep [0,1,2,5,6,7,8,9,13,14,15,16,31,39,45,58] rfl rfl ?_
  repeat (first | refine Run.seq ?_ | refine Run.skip ?_)
  first | refine Run.condT rfl rfl ?_ | refine Run.condF rfl rfl ?_ | refine Run.condT rfl (by assumption) ?_ | refine Run.condF rfl (by assumption) ?_
  refine Run.exit ?_
  repeat (first | refine thenR_exit ?_ | refine roundR_exit ?_ | refine blockR_exit ?_ | refine blockR_pass rfl ?_)
  by_cases h9 : z9 = 0
  ·
    obtain ⟨vk, vn, vb, vs⟩ := v
    dsimp only [vlA] at cv
    repeat (first | refine Run.seq ?_ | refine Run.skip ?_ | refine Run.block ?_)
    refine Run.region ?_
    refine O.move rfl rfl ?_
    refine O.load hE T51 rfl rfl rfl rfl ?_
    refine O.callE cv rfl (by first | rfl | simp [closed, men3, mens2_app, mens2_ints, mens2, men2, men1, mens1_app, mens1_ints, mens1]) (by first | rfl | simp [d2, ds1_ints, ds1_app, ds1, d1, ds0_app, ds0_ints, ds0, d0]) rfl ?_
    refine O.alloc hE 9 T25 rfl rfl rfl ?_
    refine O.store hE T25 rfl rfl rfl rfl rfl rfl ?_
    refine O.nil ?_
    try refine Run.keep [0,1,2,5,6,7,8,9,13,14,15,16,31,39,45,58] rfl rfl ?_
    repeat (first | refine Run.seq ?_ | refine Run.skip ?_ | refine Run.block ?_)
    refine Run.region ?_
    refine O.field hE L51 rfl rfl rfl rfl ?_
    first | refine O.loadS hE T3 rfl rfl rfl (by rfl) rfl ?_ | refine O.loadE hE T3 rfl rfl (by rfl) rfl ?_ | refine O.load hE T3 rfl rfl rfl rfl ?_
    refine O.callE c9 rfl (by first | rfl | simp [closed, men3, mens2_app, mens2_ints, mens2, men2, men1, mens1_app, mens1_ints, mens1]) (by first | rfl | simp [d2, ds1_ints, ds1_app, ds1, d1, ds0_app, ds0_ints, ds0, d0]) rfl ?_
    first | refine O.cmp rfl rfl rfl (by first | exact dT (by omega) | exact dF (by omega)) rfl ?_ | refine O.cmp rfl rfl rfl rfl rfl ?_
    refine O.assign rfl rfl ?_
    refine O.nil ?_
    try refine Run.keep [0,1,2,5,6,7,8,9,13,14,15,16,31,39,45,58] rfl rfl ?_
    repeat (first | refine Run.seq ?_ | refine Run.skip ?_)
    first | refine Run.condT rfl rfl ?_ | refine Run.condF rfl rfl ?_ | refine Run.condT rfl (by assumption) ?_ | refine Run.condF rfl (by assumption) ?_
    repeat (first | refine Run.seq ?_ | refine Run.skip ?_ | refine Run.block ?_)
    refine Run.region ?_
    refine O.build hE T25 L25 rfl rfl rfl ?_
    refine O.store hE T25 rfl rfl rfl rfl rfl rfl ?_
    refine O.nil ?_
    try refine Run.keep [0,1,2,5,6,7,8,9,13,14,15,16,31,39,45,58] rfl rfl ?_
    repeat (first | refine Run.seq ?_ | refine Run.skip ?_ | refine Run.block ?_)
    refine Run.region ?_
    refine O.load hE T25 rfl rfl rfl rfl ?_
    refine O.build hE T28 L28 rfl rfl rfl ?_
    refine O.store hE T28 rfl rfl rfl rfl rfl rfl ?_
    refine O.nil ?_
    try refine Run.keep [0,1,2,5,6,7,8,9,13,14,15,16,31,39,45,58] rfl rfl ?_
    refine Run.ret ?_
    exact ⟨_, ⟨.lit v0, ⟨.lit .null (by decide) (.inr rfl), rfl⟩, rfl⟩, Ends.of hE (.inr rfl) rfl rfl (SLe.by rfl (TmLe.cons (AVle.aggs (by repeat (first | exact AVles.nil | refine AVles.cons (AVle.of_eq rfl) ?_ | refine AVles.cons (AVle.nil _) ?_))) TmLe.nil) (BxsLe.cons rfl (.refl _) BxsLe.nil) rfl rfl)⟩
  by_cases hk2 : k = 2
  ·
    subst hk2
    obtain ⟨vn, rfl, hvn⟩ := good_int hv hvk
    by_cases h4 : z4 = 0
    ·
      repeat (first | refine Run.seq ?_ | refine Run.skip ?_ | refine Run.block ?_)
      refine Run.region ?_
      refine O.move rfl rfl ?_
      refine O.load hE T51 rfl rfl rfl rfl ?_
      refine O.callE cv rfl (by first | rfl | simp [closed, men3, mens2_app, mens2_ints, mens2, men2, men1, mens1_app, mens1_ints, mens1]) (by first | rfl | simp [d2, ds1_ints, ds1_app, ds1, d1, ds0_app, ds0_ints, ds0, d0]) rfl ?_
      refine O.alloc hE 9 T25 rfl rfl rfl ?_
      refine O.store hE T25 rfl rfl rfl rfl rfl rfl ?_
      refine O.nil ?_
      try refine Run.keep [0,1,2,5,6,7,8,9,13,14,15,16,31,39,45,58] rfl rfl ?_
      repeat (first | refine Run.seq ?_ | refine Run.skip ?_ | refine Run.block ?_)
      refine Run.region ?_
      refine O.field hE L51 rfl rfl rfl rfl ?_
      first | refine O.loadS hE T3 rfl rfl rfl (by rfl) rfl ?_ | refine O.loadE hE T3 rfl rfl (by rfl) rfl ?_ | refine O.load hE T3 rfl rfl rfl rfl ?_
      refine O.callE c9 rfl (by first | rfl | simp [closed, men3, mens2_app, mens2_ints, mens2, men2, men1, mens1_app, mens1_ints, mens1]) (by first | rfl | simp [d2, ds1_ints, ds1_app, ds1, d1, ds0_app, ds0_ints, ds0, d0]) rfl ?_
      first | refine O.cmp rfl rfl rfl (by first | exact dT (by omega) | exact dF (by omega)) rfl ?_ | refine O.cmp rfl rfl rfl rfl rfl ?_
      refine O.assign rfl rfl ?_
      refine O.nil ?_
      try refine Run.keep [0,1,2,5,6,7,8,9,13,14,15,16,31,39,45,58] rfl rfl ?_
      repeat (first | refine Run.seq ?_ | refine Run.skip ?_)
      first | refine Run.condT rfl rfl ?_ | refine Run.condF rfl rfl ?_ | refine Run.condT rfl (by assumption) ?_ | refine Run.condF rfl (by assumption) ?_
      repeat (first | refine Run.seq ?_ | refine Run.skip ?_ | refine Run.block ?_)
      refine Run.region ?_
      refine O.move rfl rfl ?_
      first | refine O.cmp rfl rfl rfl (by first | exact dT (by omega) | exact dF (by omega)) rfl ?_ | refine O.cmp rfl rfl rfl rfl rfl ?_
      refine O.move rfl rfl ?_
      first | (refine O.yes rfl rfl (by trivial) ?_; refine O.field hE L51 rfl rfl rfl rfl ?_) | refine O.no rfl rfl rfl rfl ?_
      first | (refine O.yes rfl rfl (by trivial) ?_; first | refine O.loadS hE T3 rfl rfl rfl (by rfl) rfl ?_ | refine O.loadE hE T3 rfl rfl (by rfl) rfl ?_ | refine O.load hE T3 rfl rfl rfl rfl ?_) | refine O.no rfl rfl rfl rfl ?_
      first | (refine O.yes rfl rfl (by trivial) ?_; refine O.callE c4 rfl (by first | rfl | simp [closed, men3, mens2_app, mens2_ints, mens2, men2, men1, mens1_app, mens1_ints, mens1]) (by first | rfl | simp [d2, ds1_ints, ds1_app, ds1, d1, ds0_app, ds0_ints, ds0, d0]) rfl ?_) | refine O.no rfl rfl rfl rfl ?_
      first | (refine O.yes rfl rfl (by trivial) ?_; first | refine O.cmp rfl rfl rfl (by first | exact dT (by omega) | exact dF (by omega)) rfl ?_ | refine O.cmp rfl rfl rfl rfl rfl ?_) | refine O.no rfl rfl rfl rfl ?_
      refine O.pick rfl rfl rfl rfl rfl ?_
      refine O.assign rfl rfl ?_
      refine O.nil ?_
      try refine Run.keep [0,1,2,5,6,7,8,9,13,14,15,16,31,39,45,58] rfl rfl ?_
      repeat (first | refine Run.seq ?_ | refine Run.skip ?_)
      first | refine Run.condT rfl rfl ?_ | refine Run.condF rfl rfl ?_ | refine Run.condT rfl (by assumption) ?_ | refine Run.condF rfl (by assumption) ?_
      repeat (first | refine Run.seq ?_ | refine Run.skip ?_ | refine Run.block ?_)
      refine Run.region ?_
      refine O.field hE L51 rfl rfl rfl rfl ?_
      first | refine O.loadS hE T3 rfl rfl rfl (by rfl) rfl ?_ | refine O.loadE hE T3 rfl rfl (by rfl) rfl ?_ | refine O.load hE T3 rfl rfl rfl rfl ?_
      refine O.bit rfl rfl hqm rfl ?_
      refine O.field hE L25 rfl rfl rfl rfl ?_
      refine O.store hE T3 rfl rfl rfl rfl rfl rfl ?_
      refine O.nil ?_
      try refine Run.keep [0,1,2,5,6,7,8,9,13,14,15,16,31,39,45,58] rfl rfl ?_
      repeat (first | refine Run.seq ?_ | refine Run.skip ?_ | refine Run.block ?_)
      refine Run.region ?_
      refine O.load hE T25 rfl rfl rfl rfl ?_
      refine O.build hE T28 L28 rfl rfl rfl ?_
      refine O.store hE T28 rfl rfl rfl rfl rfl rfl ?_
      refine O.nil ?_
      try refine Run.keep [0,1,2,5,6,7,8,9,13,14,15,16,31,39,45,58] rfl rfl ?_
      refine Run.ret ?_
      exact ⟨_, ⟨.lit ⟨2, qm, 0, noS⟩, ⟨.lit (.int qm ⟨by omega, by omega⟩) hq0 (.inl rfl), rfl⟩, rfl⟩, Ends.of hE (.inr rfl) rfl rfl (SLe.by rfl (TmLe.cons (AVle.aggs (by repeat (first | exact AVles.nil | refine AVles.cons (AVle.of_eq rfl) ?_ | refine AVles.cons (AVle.nil _) ?_))) TmLe.nil) (BxsLe.cons rfl (.refl _) BxsLe.nil) rfl rfl)⟩
    ·
      repeat (first | refine Run.seq ?_ | refine Run.skip ?_ | refine Run.block ?_)
      refine Run.region ?_
      refine O.move rfl rfl ?_
      refine O.load hE T51 rfl rfl rfl rfl ?_
      refine O.callE cv rfl (by first | rfl | simp [closed, men3, mens2_app, mens2_ints, mens2, men2, men1, mens1_app, mens1_ints, mens1]) (by first | rfl | simp [d2, ds1_ints, ds1_app, ds1, d1, ds0_app, ds0_ints, ds0, d0]) rfl ?_
      refine O.alloc hE 9 T25 rfl rfl rfl ?_
      refine O.store hE T25 rfl rfl rfl rfl rfl rfl ?_
      refine O.nil ?_
      try refine Run.keep [0,1,2,5,6,7,8,9,13,14,15,16,31,39,45,58] rfl rfl ?_
      repeat (first | refine Run.seq ?_ | refine Run.skip ?_ | refine Run.block ?_)
      refine Run.region ?_
      refine O.field hE L51 rfl rfl rfl rfl ?_
      first | refine O.loadS hE T3 rfl rfl rfl (by rfl) rfl ?_ | refine O.loadE hE T3 rfl rfl (by rfl) rfl ?_ | refine O.load hE T3 rfl rfl rfl rfl ?_
      refine O.callE c9 rfl (by first | rfl | simp [closed, men3, mens2_app, mens2_ints, mens2, men2, men1, mens1_app, mens1_ints, mens1]) (by first | rfl | simp [d2, ds1_ints, ds1_app, ds1, d1, ds0_app, ds0_ints, ds0, d0]) rfl ?_
      first | refine O.cmp rfl rfl rfl (by first | exact dT (by omega) | exact dF (by omega)) rfl ?_ | refine O.cmp rfl rfl rfl rfl rfl ?_
      refine O.assign rfl rfl ?_
      refine O.nil ?_
      try refine Run.keep [0,1,2,5,6,7,8,9,13,14,15,16,31,39,45,58] rfl rfl ?_
      repeat (first | refine Run.seq ?_ | refine Run.skip ?_)
      first | refine Run.condT rfl rfl ?_ | refine Run.condF rfl rfl ?_ | refine Run.condT rfl (by assumption) ?_ | refine Run.condF rfl (by assumption) ?_
      repeat (first | refine Run.seq ?_ | refine Run.skip ?_ | refine Run.block ?_)
      refine Run.region ?_
      refine O.move rfl rfl ?_
      first | refine O.cmp rfl rfl rfl (by first | exact dT (by omega) | exact dF (by omega)) rfl ?_ | refine O.cmp rfl rfl rfl rfl rfl ?_
      refine O.move rfl rfl ?_
      first | (refine O.yes rfl rfl (by trivial) ?_; refine O.field hE L51 rfl rfl rfl rfl ?_) | refine O.no rfl rfl rfl rfl ?_
      first | (refine O.yes rfl rfl (by trivial) ?_; first | refine O.loadS hE T3 rfl rfl rfl (by rfl) rfl ?_ | refine O.loadE hE T3 rfl rfl (by rfl) rfl ?_ | refine O.load hE T3 rfl rfl rfl rfl ?_) | refine O.no rfl rfl rfl rfl ?_
      first | (refine O.yes rfl rfl (by trivial) ?_; refine O.callE c4 rfl (by first | rfl | simp [closed, men3, mens2_app, mens2_ints, mens2, men2, men1, mens1_app, mens1_ints, mens1]) (by first | rfl | simp [d2, ds1_ints, ds1_app, ds1, d1, ds0_app, ds0_ints, ds0, d0]) rfl ?_) | refine O.no rfl rfl rfl rfl ?_
      first | (refine O.yes rfl rfl (by trivial) ?_; first | refine O.cmp rfl rfl rfl (by first | exact dT (by omega) | exact dF (by omega)) rfl ?_ | refine O.cmp rfl rfl rfl rfl rfl ?_) | refine O.no rfl rfl rfl rfl ?_
      refine O.pick rfl rfl rfl rfl rfl ?_
      refine O.assign rfl rfl ?_
      refine O.nil ?_
      try refine Run.keep [0,1,2,5,6,7,8,9,13,14,15,16,31,39,45,58] rfl rfl ?_
      repeat (first | refine Run.seq ?_ | refine Run.skip ?_)
      first | refine Run.condT rfl rfl ?_ | refine Run.condF rfl rfl ?_ | refine Run.condT rfl (by assumption) ?_ | refine Run.condF rfl (by assumption) ?_
      repeat (first | refine Run.seq ?_ | refine Run.skip ?_ | refine Run.block ?_)
      refine Run.region ?_
      refine O.move rfl rfl ?_
      first | refine O.cmp rfl rfl rfl (by first | exact dT (by omega) | exact dF (by omega)) rfl ?_ | refine O.cmp rfl rfl rfl rfl rfl ?_
      refine O.assign rfl rfl ?_
      refine O.nil ?_
      try refine Run.keep [0,1,2,5,6,7,8,9,13,14,15,16,31,39,45,58] rfl rfl ?_
      repeat (first | refine Run.seq ?_ | refine Run.skip ?_)
      first | refine Run.condT rfl rfl ?_ | refine Run.condF rfl rfl ?_ | refine Run.condT rfl (by assumption) ?_ | refine Run.condF rfl (by assumption) ?_
      repeat (first | refine Run.seq ?_ | refine Run.skip ?_ | refine Run.block ?_)
      refine Run.region ?_
      refine O.field hE L51 rfl rfl rfl rfl ?_
      first | refine O.loadS hE T3 rfl rfl rfl (by rfl) rfl ?_ | refine O.loadE hE T3 rfl rfl (by rfl) rfl ?_ | refine O.load hE T3 rfl rfl rfl rfl ?_
      refine O.callE c20 rfl (by first | rfl | simp [closed, men3, mens2_app, mens2_ints, mens2, men2, men1, mens1_app, mens1_ints, mens1]) (by first | rfl | simp [d2, ds1_ints, ds1_app, ds1, d1, ds0_app, ds0_ints, ds0, d0]) rfl ?_
      refine O.field hE L25 rfl rfl rfl rfl ?_
      refine O.store hE T3 rfl rfl rfl rfl rfl rfl ?_
      refine O.nil ?_
      try refine Run.keep [0,1,2,5,6,7,8,9,13,14,15,16,31,39,45,58] rfl rfl ?_
      repeat (first | refine Run.seq ?_ | refine Run.skip ?_ | refine Run.block ?_)
      refine Run.region ?_
      refine O.load hE T25 rfl rfl rfl rfl ?_
      refine O.build hE T28 L28 rfl rfl rfl ?_
      refine O.store hE T28 rfl rfl rfl rfl rfl rfl ?_
      refine O.nil ?_
      try refine Run.keep [0,1,2,5,6,7,8,9,13,14,15,16,31,39,45,58] rfl rfl ?_
      refine Run.ret ?_
      exact ⟨_, ⟨.lit ⟨2, z20, 0, noS⟩, ⟨.lit (.int z20 ⟨by omega, by omega⟩) (by dsimp only; omega) (.inl rfl), rfl⟩, rfl⟩, Ends.of hE (.inr rfl) rfl rfl (SLe.by rfl (TmLe.cons (AVle.aggs (by repeat (first | exact AVles.nil | refine AVles.cons (AVle.of_eq rfl) ?_ | refine AVles.cons (AVle.nil _) ?_))) TmLe.nil) (BxsLe.cons rfl (.refl _) BxsLe.nil) rfl rfl)⟩
  ·
    have hnn := good_nn hv (by rw [hvk]; exact hk2)
    obtain ⟨vk, vn, vb, vs⟩ := v
    dsimp only [vlA] at cv hvk hnn
    repeat (first | refine Run.seq ?_ | refine Run.skip ?_ | refine Run.block ?_)
    refine Run.region ?_
    refine O.move rfl rfl ?_
    refine O.load hE T51 rfl rfl rfl rfl ?_
    refine O.callE cv rfl (by first | rfl | simp [closed, men3, mens2_app, mens2_ints, mens2, men2, men1, mens1_app, mens1_ints, mens1]) (by first | rfl | simp [d2, ds1_ints, ds1_app, ds1, d1, ds0_app, ds0_ints, ds0, d0]) rfl ?_
    refine O.alloc hE 9 T25 rfl rfl rfl ?_
    refine O.store hE T25 rfl rfl rfl rfl rfl rfl ?_
    refine O.nil ?_
    try refine Run.keep [0,1,2,5,6,7,8,9,13,14,15,16,31,39,45,58] rfl rfl ?_
    repeat (first | refine Run.seq ?_ | refine Run.skip ?_ | refine Run.block ?_)
    refine Run.region ?_
    refine O.field hE L51 rfl rfl rfl rfl ?_
    first | refine O.loadS hE T3 rfl rfl rfl (by rfl) rfl ?_ | refine O.loadE hE T3 rfl rfl (by rfl) rfl ?_ | refine O.load hE T3 rfl rfl rfl rfl ?_
    refine O.callE c9 rfl (by first | rfl | simp [closed, men3, mens2_app, mens2_ints, mens2, men2, men1, mens1_app, mens1_ints, mens1]) (by first | rfl | simp [d2, ds1_ints, ds1_app, ds1, d1, ds0_app, ds0_ints, ds0, d0]) rfl ?_
    first | refine O.cmp rfl rfl rfl (by first | exact dT (by omega) | exact dF (by omega)) rfl ?_ | refine O.cmp rfl rfl rfl rfl rfl ?_
    refine O.assign rfl rfl ?_
    refine O.nil ?_
    try refine Run.keep [0,1,2,5,6,7,8,9,13,14,15,16,31,39,45,58] rfl rfl ?_
    repeat (first | refine Run.seq ?_ | refine Run.skip ?_)
    first | refine Run.condT rfl rfl ?_ | refine Run.condF rfl rfl ?_ | refine Run.condT rfl (by assumption) ?_ | refine Run.condF rfl (by assumption) ?_
    repeat (first | refine Run.seq ?_ | refine Run.skip ?_ | refine Run.block ?_)
    refine Run.region ?_
    refine O.move rfl rfl ?_
    first | refine O.cmp rfl rfl rfl (by first | exact dT (by omega) | exact dF (by omega)) rfl ?_ | refine O.cmp rfl rfl rfl rfl rfl ?_
    refine O.move rfl rfl ?_
    first | (refine O.yes rfl rfl (by trivial) ?_; refine O.field hE L51 rfl rfl rfl rfl ?_) | refine O.no rfl rfl rfl rfl ?_
    first | (refine O.yes rfl rfl (by trivial) ?_; first | refine O.loadS hE T3 rfl rfl rfl (by rfl) rfl ?_ | refine O.loadE hE T3 rfl rfl (by rfl) rfl ?_ | refine O.load hE T3 rfl rfl rfl rfl ?_) | refine O.no rfl rfl rfl rfl ?_
    first | (refine O.yes rfl rfl (by trivial) ?_; refine O.no rfl rfl rfl rfl ?_) | refine O.no rfl rfl rfl rfl ?_
    first | (refine O.yes rfl rfl (by trivial) ?_; first | refine O.cmp rfl rfl rfl (by first | exact dT (by omega) | exact dF (by omega)) rfl ?_ | refine O.cmp rfl rfl rfl rfl rfl ?_) | refine O.no rfl rfl rfl rfl ?_
    refine O.pick rfl rfl rfl rfl rfl ?_
    refine O.assign rfl rfl ?_
    refine O.nil ?_
    try refine Run.keep [0,1,2,5,6,7,8,9,13,14,15,16,31,39,45,58] rfl rfl ?_
    repeat (first | refine Run.seq ?_ | refine Run.skip ?_)
    first | refine Run.condT rfl rfl ?_ | refine Run.condF rfl rfl ?_ | refine Run.condT rfl (by assumption) ?_ | refine Run.condF rfl (by assumption) ?_
    repeat (first | refine Run.seq ?_ | refine Run.skip ?_ | refine Run.block ?_)
    refine Run.region ?_
    refine O.move rfl rfl ?_
    first | refine O.cmp rfl rfl rfl (by first | exact dT (by omega) | exact dF (by omega)) rfl ?_ | refine O.cmp rfl rfl rfl rfl rfl ?_
    refine O.assign rfl rfl ?_
    refine O.nil ?_
    try refine Run.keep [0,1,2,5,6,7,8,9,13,14,15,16,31,39,45,58] rfl rfl ?_
    repeat (first | refine Run.seq ?_ | refine Run.skip ?_)
    first | refine Run.condT rfl rfl ?_ | refine Run.condF rfl rfl ?_ | refine Run.condT rfl (by assumption) ?_ | refine Run.condF rfl (by assumption) ?_
    repeat (first | refine Run.seq ?_ | refine Run.skip ?_ | refine Run.block ?_)
    refine Run.region ?_
    refine O.load hE T25 rfl rfl rfl rfl ?_
    refine O.build hE T28 L28 rfl rfl rfl ?_
    refine O.store hE T28 rfl rfl rfl rfl rfl rfl ?_
    refine O.nil ?_
    try refine Run.keep [0,1,2,5,6,7,8,9,13,14,15,16,31,39,45,58] rfl rfl ?_
    refine Run.ret ?_
    exact ⟨_, ⟨.lit ⟨vk, vn, vb, vs⟩, ⟨.lit hv hnn (.inl hvk), rfl⟩, rfl⟩, Ends.of hE (.inr rfl) rfl rfl (SLe.by rfl (TmLe.cons (AVle.aggs (by repeat (first | exact AVles.nil | refine AVles.cons (AVle.of_eq rfl) ?_ | refine AVles.cons (AVle.nil _) ?_))) TmLe.nil) (BxsLe.cons rfl (.refl _) BxsLe.nil) rfl rfl)⟩
theorem abc_at {j : Nat} (hj : j ≤ 2) : (⟨#[97, 98, 99]⟩ : ByteArray).extract (j : Int).toNat ((j : Int) + 1).toNat = nmOf (97 + j) := by
  have : j = 0 ∨ j = 1 ∨ j = 2 := by omega
  rcases this with rfl | rfl | rfl <;> rfl
theorem fnColsK {rs : List Rw} (hl : (rs.length : Int) ≤ 9223372036854775807) : FnC (En Tryd.prog g) 39 [.pv (.lst 4 (rs.map rawE))] (.pv (.lst 3 ((colsP rs).map kolE))) [] := by
  have hE := EnOk g
  have c1 := fnSome (g := g) (rs := rs) (m := 3) (by omega) hl
  rw [show (3 : Int).toNat = 3 from rfl] at c1
  have hR3 : (rs.take 3).length ≤ 3 := by rw [List.length_take]; omega
  unfold colsP
  generalize rs.take 3 = R at *
  have hlen : (R.map rawE).length = R.length := by simp
  suffices h : FnC (En Tryd.prog g) 39 [.pv (.lst 4 (rs.map rawE))] (.gl 53 (kolK :: colsFrom 0 R).length) [(53, .lst 37 3 ((kolK :: colsFrom 0 R).map kolE))] from h.to (SLe.res0 (AVle.lst _ _ _ (lstOf_glV rfl (by simp))) rfl)
  refine FnC.of Tryd.func39 rfl rfl rfl rfl ?_
  repeat (first | refine Run.seq ?_ | refine Run.skip ?_ | refine Run.block ?_)
  refine Run.region ?_
  refine O.assign rfl rfl ?_
  refine O.nil ?_
  try refine Run.keep [0,2,3,4,5,9,10,11,12] rfl rfl ?_
  repeat (first | refine Run.seq ?_ | refine Run.skip ?_ | refine Run.block ?_)
  refine Run.region ?_
  refine O.build hE T37 L37 rfl rfl rfl ?_
  refine O.lit hE 53 T29 rfl T37 rfl rfl rfl rfl rfl rfl rfl rfl ?_
  refine O.assign rfl rfl ?_
  refine O.nil ?_
  try refine Run.keep [0,2,3,4,5,9,10,11,12] rfl rfl ?_
  repeat (first | refine Run.seq ?_ | refine Run.skip ?_ | refine Run.block ?_)
  refine Run.region ?_
  refine O.move rfl rfl ?_
  refine O.callE c1 rfl (by first | rfl | simp [closed, men3, mens2_app, mens2_ints, mens2, men2, men1, mens1_app, mens1_ints, mens1]) (by first | rfl | simp [d2, ds1_ints, ds1_app, ds1, d1, ds0_app, ds0_ints, ds0, d0]) rfl ?_
  first | refine O.lenN hE T22 rfl rfl rfl (by first | exact newest_pv | exact newest_gl rfl rfl | trivial) lenC rfl ?_ | refine O.lenLst hE T22 rfl rfl rfl (by first | exact newest_pv | exact newest_gl rfl rfl | trivial) rfl ?_
  refine O.move rfl rfl ?_
  refine O.nil ?_
  try refine Run.keep [0,2,3,4,5,9,10,11,12] rfl rfl ?_
  repeat (first | refine Run.seq ?_ | refine Run.skip ?_)
  refine Run.block ?_
  refine Run.loopInv (ι := Nat) (fun j => j ≤ R.length)
    (fun j => ⟨34, [(3, .gl 53 (kolK :: colsFrom 0 (R.take j)).length), (9, .pv (.lst 4 (R.map rawE))), (10, .pv (.int .i64 R.length)), (11, .pv (.int .i64 j))], [(53, .lst 37 3 ((kolK :: colsFrom 0 (R.take j)).map kolE))]⟩) (fun j => R.length - j) 0 (by omega) ?_ ?_
  ·
    exact SLe.drop (by repeat (first | exact TmIn.nil | refine TmIn.cons rfl ?_)) (by repeat (first | exact BxIn.nil | refine BxIn.cons rfl ?_)) rfl rfl
  rintro j hj ih
  by_cases hlt : j < R.length
  ·
    obtain ⟨r, hr⟩ : ∃ r, R[j]? = some r := ⟨_, List.getElem?_eq_getElem hlt⟩
    have hat : (R.map rawE)[(j : Int).toNat]? = some (rawE r) := by
      rw [Int.toNat_natCast, List.getElem?_map, hr]; rfl
    have hys := abc_at (j := j) (by omega)
    have hext : kolK :: colsFrom 0 (R.take (j + 1)) = (kolK :: colsFrom 0 (R.take j)) ++ [kolOf j r] := by
      rw [List.take_add_one, hr]
      simp only [Option.toList_some, List.cons_append, colsFrom_append, Nat.zero_add, List.length_take]
      rw [show min j R.length = j by omega]
      rfl
    have hQ : (kolK :: colsFrom 0 (R.take j)).length = j + 1 := by rw [List.length_cons, colsFrom_len, List.length_take]; omega
    have c2 := fnPick (g := g) (a := r.kd) (m := 4) (by omega) (by omega)
    have c3 := fnPick (g := g) (a := r.a) (m := 2) (by omega) (by omega)
    have h40 : 0 ≤ r.kd % 4 ∧ r.kd % 4 < 4 := by omega
    have hko : [kolE (kolOf j r)] = [kolOf j r].map kolE := rfl
    have hko2 : kolE (kolOf j r) = .agg [.str (nmOf (97 + j)), .int .i64 (1 + r.kd % 4), .bool (decide (r.a % 2 = 0))] := rfl
    generalize kolK :: colsFrom 0 (R.take j) = Q at *
    generalize kolOf j r = ko at *
    generalize r.kd % 4 = z4 at *
    generalize r.a % 2 = z2 at *
    obtain ⟨rk, ra, rb, rt⟩ := r
    dsimp only [rawE] at hat c2 c3
    obtain ⟨kn, kk, kb⟩ := ko
    dsimp only [kolE] at hko2
    obtain ⟨rfl, rfl, rfl⟩ : kn = nmOf (97 + j) ∧ kk = 1 + z4 ∧ kb = decide (z2 = 0) := by
      simp only [PV.agg.injEq, List.cons.injEq, PV.str.injEq, PV.int.injEq, PV.bool.injEq, and_true, true_and] at hko2
      exact hko2
    repeat (first | refine Run.seq ?_ | refine Run.skip ?_ | refine Run.block ?_)
    refine Run.region ?_
    first | refine O.cmp rfl rfl rfl (by first | exact dT (by omega) | exact dF (by omega)) rfl ?_ | refine O.cmp rfl rfl rfl rfl rfl ?_
    refine O.nil ?_
    try refine Run.keep [0,2,3,4,5,9,10,11,12] rfl rfl ?_
    repeat (first | refine Run.seq ?_ | refine Run.skip ?_)
    first | refine Run.condT rfl rfl ?_ | refine Run.condF rfl rfl ?_ | refine Run.condT rfl (by assumption) ?_ | refine Run.condF rfl (by assumption) ?_
    repeat (first | refine Run.seq ?_ | refine Run.skip ?_ | refine Run.block ?_)
    refine Run.region ?_
    refine O.move rfl rfl ?_
    refine O.index hE T22 rfl T51 rfl rfl (by first | exact newest_pv | exact newest_gl rfl rfl | trivial) rfl (by omega) (by first | assumption | rfl) rfl rfl rfl ?_
    refine O.load hE T51 rfl rfl rfl rfl ?_
    refine O.alloc hE 5 T51 rfl rfl rfl ?_
    refine O.assign rfl rfl ?_
    refine O.store hE T51 rfl rfl rfl rfl rfl rfl ?_
    refine O.nil ?_
    try refine Run.keep [0,2,3,4,5,9,10,11,12] rfl rfl ?_
    repeat (first | refine Run.seq ?_ | refine Run.skip ?_ | refine Run.block ?_)
    refine Run.draw mixed rfl ?_
    refine D.move rfl rfl ?_
    refine D.move rfl rfl ?_
    refine D.move rfl rfl ?_
    first | refine D.ar rfl rfl rfl (by exact wrap_i64 (by omega) (by omega)) rfl ?_ | refine D.ar rfl rfl rfl rfl rfl ?_
    refine D.sliceS hE T9 rfl rfl rfl rfl (by omega) (by omega) (show (j : Int) + 1 ≤ 3 by omega) hys rfl ?_
    refine D.field hE L51 rfl rfl rfl rfl ?_
    first | refine D.loadS hE T3 rfl rfl rfl (by rfl) rfl ?_ | refine D.loadE hE T3 rfl rfl (by rfl) rfl ?_ | refine D.load hE T3 rfl rfl rfl rfl ?_
    refine D.callE c2 rfl (by first | rfl | simp [closed, men3, mens2_app, mens2_ints, mens2, men2, men1, mens1_app, mens1_ints, mens1]) (by first | rfl | simp [d2, ds1_ints, ds1_app, ds1, d1, ds0_app, ds0_ints, ds0, d0]) rfl ?_
    first | refine D.ar rfl rfl rfl (by exact wrap_i64 (by omega) (by omega)) rfl ?_ | refine D.ar rfl rfl rfl rfl rfl ?_
    refine D.field hE L51 rfl rfl rfl rfl ?_
    first | refine D.loadS hE T3 rfl rfl rfl (by rfl) rfl ?_ | refine D.loadE hE T3 rfl rfl (by rfl) rfl ?_ | refine D.load hE T3 rfl rfl rfl rfl ?_
    refine D.callE c3 rfl (by first | rfl | simp [closed, men3, mens2_app, mens2_ints, mens2, men2, men1, mens1_app, mens1_ints, mens1]) (by first | rfl | simp [d2, ds1_ints, ds1_app, ds1, d1, ds0_app, ds0_ints, ds0, d0]) rfl ?_
    refine D.cmp rfl rfl rfl rfl rfl ?_
    refine D.build hE T37 L37 rfl rfl rfl ?_
    refine D.litV hE T29 rfl T37 rfl rfl rfl rfl rfl rfl rfl ?_
    refine D.appM kolE (q := Q) (r := [⟨nmOf (97 + j), 1 + z4, decide (z2 = 0)⟩]) hE T29 rfl T37 rfl rfl rfl rfl rfl newest_pv rfl rfl rfl rfl (by simp; omega) (by simp [maxLen]; omega) rfl ?_
    refine D.assign rfl rfl ?_
    refine Dr.nil ?_
    refine ⟨rfl, ?_⟩
    try refine Run.keep [0,2,3,4,5,9,10,11,12] rfl rfl ?_
    repeat (first | refine Run.seq ?_ | refine Run.skip ?_ | refine Run.block ?_)
    refine Run.region ?_
    first | refine O.ar rfl rfl rfl (by exact wrap_i64 (by omega) (by omega)) rfl ?_ | refine O.ar rfl rfl rfl rfl rfl ?_
    refine O.move rfl rfl ?_
    refine O.nil ?_
    try refine Run.keep [0,2,3,4,5,9,10,11,12] rfl rfl ?_
    refine ih (j + 1) _ ?_ (by omega) (by omega)
    rw [hext]
    exact SLe.drop (by repeat (first | exact TmIn.nil | refine TmIn.cons rfl ?_)) (by repeat (first | exact BxIn.nil | refine BxIn.cons rfl ?_)) rfl rfl
  have hj' : j = R.length := by omega
  rw [hj', List.take_length]
  repeat (first | refine Run.seq ?_ | refine Run.skip ?_ | refine Run.block ?_)
  refine Run.region ?_
  first | refine O.cmp rfl rfl rfl (by first | exact dT (by omega) | exact dF (by omega)) rfl ?_ | refine O.cmp rfl rfl rfl rfl rfl ?_
  refine O.nil ?_
  try refine Run.keep [0,2,3,4,5,9,10,11,12] rfl rfl ?_
  repeat (first | refine Run.seq ?_ | refine Run.skip ?_)
  first | refine Run.condT rfl rfl ?_ | refine Run.condF rfl rfl ?_ | refine Run.condT rfl (by assumption) ?_ | refine Run.condF rfl (by assumption) ?_
  refine Run.exit ?_
  repeat (first | refine thenR_exit ?_ | refine roundR_exit ?_ | refine blockR_exit ?_ | refine blockR_pass rfl ?_)
  repeat (first | refine Run.seq ?_ | refine Run.skip ?_ | refine Run.block ?_)
  refine Run.region ?_
  refine O.move rfl rfl ?_
  refine O.assign rfl rfl ?_
  refine O.nil ?_
  try refine Run.keep [0,2,3,4,5,9,10,11,12] rfl rfl ?_
  refine Run.ret ?_
  exact Ends.of hE (.inr rfl) rfl rfl (SLe.drop (by repeat (first | exact TmIn.nil | refine TmIn.cons rfl ?_)) (by repeat (first | exact BxIn.nil | refine BxIn.cons rfl ?_)) rfl rfl)
theorem fnHeapOf {rs : List Rw} (hl : (rs.length : Int) ≤ 9223372036854775807) : FnC (En Tryd.prog g) 25 [.pv (.lst 4 (rs.map rawE))] (.ptr 200 0) [(200, hpV (rs.take 40) 0 (colsP (rs.take ((rs.length : Int) % 4).toNat)))] := by
  have hE := EnOk g
  have hlm : ((rs.map rawE).length : Int) = rs.length := by simp
  have c1 := fnSome (g := g) (rs := rs) (m := 40) (by omega) hl
  rw [show (40 : Int).toNat = 40 from rfl] at c1
  have c2 := fnPick (g := g) (a := (rs.length : Int)) (m := 4) (by omega) (by omega)
  have c3 := fnSome (g := g) (rs := rs) (m := (rs.length : Int) % 4) (by omega) hl
  have c4 := fnColsK (g := g) (rs := rs.take ((rs.length : Int) % 4).toNat) (by rw [List.length_take]; omega)
  generalize rs.take 40 = A at *
  generalize rs.take ((rs.length : Int) % 4).toNat = B at *
  generalize (rs.length : Int) % 4 = z at *
  generalize colsP B = C at *
  refine FnC.of Tryd.func25 rfl rfl rfl rfl ?_
  repeat (first | refine Run.seq ?_ | refine Run.skip ?_ | refine Run.block ?_)
  refine Run.region ?_
  refine O.assignN rfl ?_
  refine O.nil ?_
  try refine Run.keep [0,2] rfl rfl ?_
  repeat (first | refine Run.seq ?_ | refine Run.skip ?_ | refine Run.block ?_)
  refine Run.region ?_
  refine O.move rfl rfl ?_
  refine O.callE c1 rfl (by first | rfl | simp [closed, men3, mens2_app, mens2_ints, mens2, men2, men1, mens1_app, mens1_ints, mens1]) (by first | rfl | simp [d2, ds1_ints, ds1_app, ds1, d1, ds0_app, ds0_ints, ds0, d0]) rfl ?_
  refine O.move rfl rfl ?_
  refine O.move rfl rfl ?_
  refine O.lenN hE T22 rfl rfl rfl newest_pv hlm rfl ?_
  refine O.callE c2 rfl (by first | rfl | simp [closed, men3, mens2_app, mens2_ints, mens2, men2, men1, mens1_app, mens1_ints, mens1]) (by first | rfl | simp [d2, ds1_ints, ds1_app, ds1, d1, ds0_app, ds0_ints, ds0, d0]) rfl ?_
  refine O.callE c3 rfl (by first | rfl | simp [closed, men3, mens2_app, mens2_ints, mens2, men2, men1, mens1_app, mens1_ints, mens1]) (by first | rfl | simp [d2, ds1_ints, ds1_app, ds1, d1, ds0_app, ds0_ints, ds0, d0]) rfl ?_
  refine O.callE c4 rfl (by first | rfl | simp [closed, men3, mens2_app, mens2_ints, mens2, men2, men1, mens1_app, mens1_ints, mens1]) (by first | rfl | simp [d2, ds1_ints, ds1_app, ds1, d1, ds0_app, ds0_ints, ds0, d0]) rfl ?_
  refine O.build hE T60 L60 rfl rfl rfl ?_
  refine O.box 200 rfl rfl rfl rfl ?_
  refine O.assign rfl rfl ?_
  refine O.nil ?_
  try refine Run.keep [0,2] rfl rfl ?_
  refine Run.ret ?_
  exact Ends.of hE (.inr rfl) rfl rfl (SLe.drop (by repeat (first | exact TmIn.nil | refine TmIn.cons rfl ?_)) (by repeat (first | exact BxIn.nil | refine BxIn.cons rfl ?_)) rfl rfl)
end Go.Proofs.YtdigejpgjnhclaaDoor.Vm
end
