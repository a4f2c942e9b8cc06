/- Grants: places compared; who may hand on, who has. Conditions: none. -/
import Derived.Test.YtokjeodlcilfpaaRgtA
namespace Go.Proofs.Ytokjeodlcilfpaa.Vm
open Go Go.RowKit
set_option linter.unusedVariables false
set_option linter.unusedSimpArgs false
attribute [local irreducible] Ops Dr Run
section
variable {P : Program} {w : World}
theorem part_plainG {e : TypeId} (he : P.plainKey e = true) {xs : Array Value} {o : Nat} {v : Value} (h : xs[o]? = some v) : (part e xs o).run P w = .ok v w := run_part_plain w he h
theorem eqfG {d : Nat} {xs ys : Array Value} {f : Field} {fs : List Field} {a b : Value} {r r2 : Bool} (hn : (f.name == "_") = false) (ha : (part f.type xs f.offset).run P w = .ok a w) (hb : (part f.type ys f.offset).run P w = .ok b w) (he : (Op.equalIn d f.type a b).run P w = .ok r w) (hr : (Op.eqFields d xs ys fs).run P w = .ok r2 w) : (Op.eqFields d xs ys (f :: fs)).run P w = .ok (r && r2) w := by
  have hn' : f.name ≠ "_" := by simpa using hn
  rw [Op.eqFields]
  simp only [if_pos hn', Sem.run_bind, ha, hb, he, Result.andThen_ok]
  cases r
  · simp
  · simpa using hr
theorem eqSG {d : Nat} {xs ys : Array Value} {r : Bool} {t : TypeId} {fs : Array Field} (hu : P.underlying t = some (.struct fs)) (hp : P.stoodInHeld t = false) (h : (Op.eqFields d xs ys fs.toList).run P w = .ok r w) : (Op.equalIn (d + 1) t (.agg xs) (.agg ys)).run P w = .ok r w := by
  have hf : P.fieldsOf t = fs := by simp [Program.fieldsOf, hu]
  rw [run_equalIn_struct (P := P) w d t xs ys (by rw [hf]; exact hu) hp, hf]
  exact h
theorem eq_intG {e : TypeId} {k : IntKind} (he : P.underlying e = some (.int k)) (d : Nat) (z y : Int) : (Op.equalIn (d + 1) e (.int k z) (.int k y)).run P w = .ok (decide (z = y)) w := by
  rw [run_equalIn_int (P := P) w d e k k z y he]
  congr 1
end
section
variable {E : Env} {n : Nat} {tm : List (Nat × AV)} {bx : List (Nat × Box)} {ops : Array Oper} {l : List Oper} {d : Tmp} {ty : TypeId} {pos : String} {after : Array Edge}
theorem OpOk.eqAggG {P : Program} {g : Gb} {s : St} {dst : Option Tmp} {t t' : TypeId} {y z : Operand} {gd : Option (Nat × Bool)} {cs ds : List AV} {us vs : List Value} {r c : Bool} (b : Bool) (hy : s.ev g y = .agg cs) (hz : s.ev g z = .agg ds) (hv : vals? cs = some us) (hv2 : vals? ds = some vs) (hg0 : P.eqGuardType P.depth t = false) (hq : ∀ w, (Op.equalIn 10000 t (.agg us.toArray) (.agg vs.toArray)).run P w = .ok r w) (hc : (if b then r else !r) = c)
    (hd : ∀ t, dst = some t → t < s.n) : OpOk P g ⟨dst, .binOp (if b then .eql else .neq) t y z t', ty, pos, after, gd⟩ s (s.putO dst (.pv (.bool c))) := by
  refine OpOk.val (o := ⟨dst, .binOp (if b then .eql else .neq) t y z t', ty, pos, after, gd⟩) hd (fun cx a w G hP hg hs => ⟨.bool c, ?_, .pv _ _ (.bool _)⟩)
  have h1 := hs.ev hg y
  have h2 := hs.ev hg z
  rw [hy] at h1
  rw [hz] at h2
  have e1 : a.eval y = .agg us.toArray := h1.of_flat (by simp [AV.flat?, hv])
  have e2 : a.eval z = .agg vs.toArray := h2.of_flat (by simp [AV.flat?, hv2])
  subst hP
  subst hc
  cases b
  · simp only [execOp, e1, e2, Sem.run_bind, Bool.false_eq_true, if_false, run_eqGuard_agg (P := cx.P) w .neq t y z _ _ hg0, Result.andThen_ok, run_neq_struct, hq w, Sem.run_pure]
  · simp only [execOp, e1, e2, Sem.run_bind, if_true, run_eqGuard_agg (P := cx.P) w .eql t y z _ _ hg0, Result.andThen_ok, run_eql_struct, hq w, Sem.run_pure]
theorem D.eqAggG {Θ : List Rec → St → Prop} {t t' : TypeId} {y z : Operand} {cs ds : List AV} {us vs : List Value} {r c : Bool} (hy : evO E tm y = some (.agg cs)) (hz : evO E tm z = some (.agg ds)) (hv : vals? cs = some us) (hv2 : vals? ds = some vs) (hg0 : E.P.eqGuardType E.P.depth t = false) (hq : ∀ w, (Op.equalIn 10000 t (.agg us.toArray) (.agg vs.toArray)).run E.P w = .ok r w) (hc : r = c) (hd : Nat.blt d n = true)
    (h : Dr E.P E.g ops l ⟨n, (d, .pv (.bool c)) :: tm, bx⟩ (fun rs => Θ (⟨rtOf y (.agg cs) ++ rtOf z (.agg ds), [], [], some d, .pv (.bool c), []⟩ :: rs))) : Dr E.P E.g ops (⟨some d, .binOp .eql t y z t', ty, pos, after, none⟩ :: l) ⟨n, tm, bx⟩ Θ :=
  D.of (rt := rtOf y (.agg cs) ++ rtOf z (.agg ds)) (rb := []) (fun w hw => (List.mem_append.1 hw).elim (rt_now hy w) (rt_now hz w)) none_met hd (fun s hs _ hd' => OpOk.eqAggG (s := s) true (evO_ok (n := s.n) (bx := s.bx) (rt_ev hy (fun p hp => hs p (mem_l hp)))) (evO_ok (n := s.n) (bx := s.bx) (rt_ev hz (fun p hp => hs p (mem_r hp)))) hv hv2 hg0 hq hc (fun t ht => by obtain rfl := Option.some.inj ht; exact hd')) h
theorem D.neAggG {Θ : List Rec → St → Prop} {t t' : TypeId} {y z : Operand} {cs ds : List AV} {us vs : List Value} {r c : Bool} (hy : evO E tm y = some (.agg cs)) (hz : evO E tm z = some (.agg ds)) (hv : vals? cs = some us) (hv2 : vals? ds = some vs) (hg0 : E.P.eqGuardType E.P.depth t = false) (hq : ∀ w, (Op.equalIn 10000 t (.agg us.toArray) (.agg vs.toArray)).run E.P w = .ok r w) (hc : (!r) = c) (hd : Nat.blt d n = true)
    (h : Dr E.P E.g ops l ⟨n, (d, .pv (.bool c)) :: tm, bx⟩ (fun rs => Θ (⟨rtOf y (.agg cs) ++ rtOf z (.agg ds), [], [], some d, .pv (.bool c), []⟩ :: rs))) : Dr E.P E.g ops (⟨some d, .binOp .neq t y z t', ty, pos, after, none⟩ :: l) ⟨n, tm, bx⟩ Θ :=
  D.of (rt := rtOf y (.agg cs) ++ rtOf z (.agg ds)) (rb := []) (fun w hw => (List.mem_append.1 hw).elim (rt_now hy w) (rt_now hz w)) none_met hd (fun s hs _ hd' => OpOk.eqAggG (s := s) false (evO_ok (n := s.n) (bx := s.bx) (rt_ev hy (fun p hp => hs p (mem_l hp)))) (evO_ok (n := s.n) (bx := s.bx) (rt_ev hz (fun p hp => hs p (mem_r hp)))) hv hv2 hg0 hq hc (fun t ht => by obtain rfl := Option.some.inj ht; exact hd')) h
end
theorem eq_pl (x y : Gr) (w : World) : (Op.equalIn 10000 63 (.agg [Value.int .i64 x.ob, .int .i64 x.rt, .int .i64 x.fr, .int .i64 x.tt].toArray) (.agg [Value.int .i64 y.ob, .int .i64 y.rt, .int .i64 y.fr, .int .i64 y.tt].toArray)).run Try.prog w = .ok (samePl x y) w := by
  refine eqSG (d := 9999) Try.underlying63 (by kernel_rfl) ?_
  unfold samePl
  have e : (decide (x.fr = y.fr) && decide (x.tt = y.tt)) = (decide (x.fr = y.fr) && (decide (x.tt = y.tt) && true)) := by rw [Bool.and_true]
  rw [e]
  refine eqfG rfl (part_plainG (by kernel_rfl) rfl) (part_plainG (by kernel_rfl) rfl) (eq_intG Try.underlying3 9998 _ _) ?_
  refine eqfG rfl (part_plainG (by kernel_rfl) rfl) (part_plainG (by kernel_rfl) rfl) (eq_intG Try.underlying3 9998 _ _) ?_
  refine eqfG rfl (part_plainG (by kernel_rfl) rfl) (part_plainG (by kernel_rfl) rfl) (eq_intG Try.underlying3 9998 _ _) ?_
  refine eqfG rfl (part_plainG (by kernel_rfl) rfl) (part_plainG (by kernel_rfl) rfl) (eq_intG Try.underlying3 9998 _ _) ?_
  rfl
variable {g : Nat → Option (List PV)}
/-- Has a user such a grant? -/
def got (u o r : Int) (x : Gr) : Bool := decide (x.tt = u) && decide (x.ob = o) && decide (x.rt = r)
def mayP (l : List Gr) (u o r : Int) : Bool := decide (o / 4 = u) || l.any fun x => got u o r x && x.op
def hasP (l : List Gr) (u o r : Int) : Bool := decide (o / 4 = u) || l.any fun x => got u o r x
theorem any_take {α : Type} {l : List α} {f : α → Bool} {j : Nat} {x : α} (h : l[j]? = some x) (hf : f x = true) : l.any f = true := List.any_eq_true.2 ⟨x, List.mem_of_getElem? h, hf⟩
theorem any_none {α : Type} {l : List α} {f : α → Bool} (h : ∀ (j : Nat) x, l[j]? = some x → f x = false) : l.any f = false := by
  rw [List.any_eq_false]
  intro x hx
  obtain ⟨j, hj⟩ := List.getElem?_of_mem hx
  rw [h j x hj]; decide
theorem fnMay {l : List Gr} {u o r : Int} (h0 : 0 ≤ o) (h1 : o < 12) (hl : l.length ≤ 96) : FnC (En Try.prog g) 25 [.pv (.lst 5 (l.map grE)), .pv (.int .i64 u), .pv (.int .i64 o), .pv (.int .i64 r)] (.pv (.bool (mayP l u o r))) [] := by
  have hE := EnOk g
  have c1 := fnOwner (g := g) h0 h1
  unfold mayP
  generalize o / 4 = q at *
  by_cases hq : q = u
  ·
    rw [decide_eq_true hq, Bool.true_or]
    refine FnC.of Try.func25 rfl rfl rfl rfl ?_
    repeat (first | refine Run.seq ?_ | refine Run.skip ?_ | refine Run.block ?_)
    refine Run.region ?_
    refine O.assign rfl rfl ?_
    refine O.nil ?_
    try refine Run.keep [0, 1, 2, 3, 8, 10, 14, 15, 16, 17, 18, 40] rfl rfl ?_
    repeat (first | refine Run.seq ?_ | refine Run.skip ?_ | refine Run.block ?_)
    refine Run.region ?_
    refine O.move rfl rfl ?_
    refine O.callE c1 rfl (by first | rfl | simp [closed, men3, mens2_app, mens2_ints, mens2, men2, men1, mens1_app, mens1_ints, mens1]) (by first | rfl | simp [d2, ds1_ints, ds1_app, ds1, d1, ds0_app, ds0_ints, ds0, d0]) rfl ?_
    refine O.move rfl rfl ?_
    refine O.cmp (c' := true) rfl rfl rfl (by simpa using hq) rfl ?_
    refine O.nil ?_
    try refine Run.keep [0, 1, 2, 3, 8, 10, 14, 15, 16, 17, 18, 40] rfl rfl ?_
    repeat (first | refine Run.seq ?_ | refine Run.skip ?_)
    first | refine Run.condT rfl rfl ?_ | refine Run.condF rfl rfl ?_ | refine Run.condT rfl (by assumption) ?_ | refine Run.condF rfl (by assumption) ?_
    repeat (first | refine Run.seq ?_ | refine Run.skip ?_ | refine Run.block ?_)
    refine Run.region ?_
    refine O.assign rfl rfl ?_
    refine O.nil ?_
    try refine Run.keep [0, 1, 2, 3, 8, 10, 14, 15, 16, 17, 18, 40] rfl rfl ?_
    refine Run.ret ?_
    (repeat (first | refine Run.seq ?_ | refine Run.skip ?_)); (try refine Run.ret ?_); first | exact Ends.flat hE (.inr rfl) rfl rfl (AVle.of_eq rfl) rfl | exact Ends.flat hE (.inl rfl) rfl rfl (AVle.of_eq rfl) rfl
  rw [decide_eq_false hq, Bool.false_or]
  obtain ⟨A, hA⟩ : ∃ A, (l.any (fun x => got u o r x && x.op)) = A := ⟨_, rfl⟩
  rw [hA]
  refine FnC.of Try.func25 rfl rfl rfl rfl ?_
  repeat (first | refine Run.seq ?_ | refine Run.skip ?_ | refine Run.block ?_)
  refine Run.region ?_
  refine O.assign rfl rfl ?_
  refine O.nil ?_
  try refine Run.keep [0, 1, 2, 3, 8, 10, 14, 15, 16, 17, 18, 40] rfl rfl ?_
  repeat (first | refine Run.seq ?_ | refine Run.skip ?_ | refine Run.block ?_)
  refine Run.region ?_
  refine O.move rfl rfl ?_
  refine O.callE c1 rfl (by first | rfl | simp [closed, men3, mens2_app, mens2_ints, mens2, men2, men1, mens1_app, mens1_ints, mens1]) (by first | rfl | simp [d2, ds1_ints, ds1_app, ds1, d1, ds0_app, ds0_ints, ds0, d0]) rfl ?_
  refine O.move rfl rfl ?_
  refine O.cmp (c' := false) rfl rfl rfl (by simpa using hq) rfl ?_
  refine O.nil ?_
  try refine Run.keep [0, 1, 2, 3, 8, 10, 14, 15, 16, 17, 18, 40] rfl rfl ?_
  repeat (first | refine Run.seq ?_ | refine Run.skip ?_)
  first | refine Run.condT rfl rfl ?_ | refine Run.condF rfl rfl ?_ | refine Run.condT rfl (by assumption) ?_ | refine Run.condF rfl (by assumption) ?_
  repeat (first | refine Run.seq ?_ | refine Run.skip ?_ | refine Run.block ?_)
  refine Run.region ?_
  refine O.move rfl rfl ?_
  first | refine O.lenN hE T42 rfl rfl rfl (by first | exact newest_pv | exact newest_gl rfl rfl | trivial) lenC rfl ?_ | refine O.lenLst hE T42 rfl rfl rfl (by first | exact newest_pv | exact newest_gl rfl rfl | trivial) rfl ?_
  refine O.move rfl rfl ?_
  refine O.nil ?_
  try refine Run.keep [0, 1, 2, 3, 8, 10, 14, 15, 16, 17, 18, 40] rfl rfl ?_
  repeat (first | refine Run.seq ?_ | refine Run.skip ?_)
  refine Run.block ?_
  refine Run.loopInv (ι := Nat) (fun j => j ≤ l.length ∧ ∀ i x, i < j → l[i]? = some x → (fun x => got u o r x && x.op) x = false) (fun j => ⟨42, [(1, .pv (.int .i64 u)), (2, .pv (.int .i64 o)), (3, .pv (.int .i64 r)), (15, .pv (.lst 5 (l.map grE))), (16, .pv (.int .i64 l.length)), (17, .pv (.int .i64 (j : Int)))], []⟩) (fun j => l.length - j) 0 ⟨Nat.zero_le _, fun i x hi => by omega⟩ ?_ ?_
  ·
    refine SLe.eqv (by repeat (first | exact TmIn.nil | refine TmIn.cons rfl ?_)) (by repeat (first | exact BxIn.nil | refine BxIn.cons rfl ?_)) rfl
  rintro j ⟨hj, hno⟩ ih
  by_cases hlt : j < l.length
  ·
    obtain ⟨x, hv⟩ : ∃ x, l[j]? = some x := ⟨_, List.getElem?_eq_getElem hlt⟩
    have hat : (l.map grE)[(j : Int).toNat]? = some (grE x) := by rw [Int.toNat_natCast, List.getElem?_map, hv]; rfl
    obtain ⟨p, hp⟩ : ∃ p, (fun x => got u o r x && x.op) x = p := ⟨_, rfl⟩
    have hp2 := hp
    unfold got at hp
    obtain ⟨fr, tt, ob, rt, op⟩ := x
    dsimp only at hp
    cases p with
    | true =>
      have hAt : A = true := by rw [← hA]; exact any_take hv hp2
      obtain ⟨⟨⟨e1, e2⟩, e3⟩, e4⟩ : ((tt = u ∧ ob = o) ∧ rt = r) ∧ op = true := by simpa using hp
      subst e4
      repeat (first | refine Run.seq ?_ | refine Run.skip ?_ | refine Run.block ?_)
      refine Run.region ?_
      first | refine O.cmp rfl rfl rfl (by first | exact decide_eq_true (by omega) | exact decide_eq_false (by omega)) rfl ?_ | refine O.cmp rfl rfl rfl rfl rfl ?_
      refine O.nil ?_
      try refine Run.keep [0, 1, 2, 3, 8, 10, 14, 15, 16, 17, 18, 40] rfl rfl ?_
      repeat (first | refine Run.seq ?_ | refine Run.skip ?_)
      first | refine Run.condT rfl rfl ?_ | refine Run.condF rfl rfl ?_ | refine Run.condT rfl (by assumption) ?_ | refine Run.condF rfl (by assumption) ?_
      repeat (first | refine Run.seq ?_ | refine Run.skip ?_ | refine Run.block ?_)
      refine Run.region ?_
      refine O.index hE T42 rfl T46 rfl rfl newest_pv rfl (by omega) hat rfl rfl rfl ?_
      refine O.load hE T46 rfl rfl rfl rfl ?_
      refine O.alloc hE 10 T46 rfl rfl rfl ?_
      refine O.store hE T46 rfl rfl rfl rfl rfl rfl ?_
      refine O.nil ?_
      try refine Run.keep [0, 1, 2, 3, 8, 10, 14, 15, 16, 17, 18, 40] rfl rfl ?_
      repeat (first | refine Run.seq ?_ | refine Run.skip ?_ | refine Run.block ?_)
      refine Run.region ?_
      refine O.field hE L46 rfl rfl rfl rfl ?_
      first | refine O.loadS hE T3 rfl rfl rfl (by rfl) rfl ?_ | refine O.loadE hE T3 rfl rfl (by rfl) rfl ?_ | refine O.load hE T3 rfl rfl rfl rfl ?_
      refine O.move rfl rfl ?_
      refine O.cmp (c' := true) rfl rfl rfl (decide_eq_true e1) rfl ?_
      refine O.move rfl rfl ?_
      first | (refine O.yes rfl rfl (by first | rfl | assumption) ?_; refine O.field hE L46 rfl rfl rfl rfl ?_) | refine O.no rfl rfl rfl rfl ?_
      first | (refine O.yes rfl rfl (by first | rfl | assumption) ?_; first | refine O.loadS hE T3 rfl rfl rfl (by rfl) rfl ?_ | refine O.loadE hE T3 rfl rfl (by rfl) rfl ?_ | refine O.load hE T3 rfl rfl rfl rfl ?_) | refine O.no rfl rfl rfl rfl ?_
      first | (refine O.yes rfl rfl (by first | rfl | assumption) ?_; refine O.move rfl rfl ?_) | refine O.no rfl rfl rfl rfl ?_
      first | (refine O.yes rfl rfl (by first | rfl | assumption) ?_; refine O.cmp (c' := true) rfl rfl rfl (decide_eq_true e2) rfl ?_) | refine O.no rfl rfl rfl rfl ?_
      refine O.pick rfl rfl rfl rfl rfl ?_
      refine O.move rfl rfl ?_
      first | (refine O.yes rfl rfl (by first | rfl | assumption) ?_; refine O.field hE L46 rfl rfl rfl rfl ?_) | refine O.no rfl rfl rfl rfl ?_
      first | (refine O.yes rfl rfl (by first | rfl | assumption) ?_; first | refine O.loadS hE T3 rfl rfl rfl (by rfl) rfl ?_ | refine O.loadE hE T3 rfl rfl (by rfl) rfl ?_ | refine O.load hE T3 rfl rfl rfl rfl ?_) | refine O.no rfl rfl rfl rfl ?_
      first | (refine O.yes rfl rfl (by first | rfl | assumption) ?_; refine O.move rfl rfl ?_) | refine O.no rfl rfl rfl rfl ?_
      first | (refine O.yes rfl rfl (by first | rfl | assumption) ?_; refine O.cmp (c' := true) rfl rfl rfl (decide_eq_true e3) rfl ?_) | refine O.no rfl rfl rfl rfl ?_
      refine O.pick rfl rfl rfl rfl rfl ?_
      refine O.move rfl rfl ?_
      first | (refine O.yes rfl rfl (by first | rfl | assumption) ?_; refine O.field hE L46 rfl rfl rfl rfl ?_) | refine O.no rfl rfl rfl rfl ?_
      first | (refine O.yes rfl rfl (by first | rfl | assumption) ?_; first | refine O.loadS hE T4 rfl rfl rfl (by rfl) rfl ?_ | refine O.loadE hE T4 rfl rfl (by rfl) rfl ?_ | refine O.load hE T4 rfl rfl rfl rfl ?_) | refine O.no rfl rfl rfl rfl ?_
      refine O.pick rfl rfl rfl rfl rfl ?_
      refine O.nil ?_
      try refine Run.keep [0, 1, 2, 3, 8, 10, 14, 15, 16, 17, 18, 40] rfl rfl ?_
      repeat (first | refine Run.seq ?_ | refine Run.skip ?_)
      first | refine Run.condT rfl rfl ?_ | refine Run.condF rfl rfl ?_ | refine Run.condT rfl (by assumption) ?_ | refine Run.condF rfl (by assumption) ?_
      repeat (first | refine Run.seq ?_ | refine Run.skip ?_ | refine Run.block ?_)
      refine Run.region ?_
      refine O.assign rfl rfl ?_
      refine O.nil ?_
      try refine Run.keep [0, 1, 2, 3, 8, 10, 14, 15, 16, 17, 18, 40] rfl rfl ?_
      refine Run.ret ?_
      repeat (first | refine thenR_ret ?_ | refine roundR_ret ?_ | refine blockR_ret ?_)
      rw [hAt]
      exact Ends.of hE (.inr rfl) rfl rfl (SLe.res0 (AVle.of_eq rfl) rfl)
    | false =>
      have hn2 : ∀ i x, i < j + 1 → l[i]? = some x → (fun x => got u o r x && x.op) x = false := fun i x hi hx => by
        by_cases hij : i < j
        · exact hno i x hij hx
        · obtain rfl : i = j := by omega
          rw [hv] at hx
          obtain rfl := Option.some.inj hx
          exact hp2
      obtain ⟨q1, h1'⟩ : ∃ q1, decide (tt = u) = q1 := ⟨_, rfl⟩
      obtain ⟨q2, h2'⟩ : ∃ q2, decide (ob = o) = q2 := ⟨_, rfl⟩
      obtain ⟨q3, h3'⟩ : ∃ q3, decide (rt = r) = q3 := ⟨_, rfl⟩
      rw [h1', h2', h3'] at hp
      clear hp2 hA hno
      have go : ∀ {s' : St}, SLe s' ⟨42, [(1, .pv (.int .i64 u)), (2, .pv (.int .i64 o)), (3, .pv (.int .i64 r)), (15, .pv (.lst 5 (l.map grE))), (16, .pv (.int .i64 l.length)), (17, .pv (.int .i64 ((j + 1 : Nat) : Int)))], []⟩ → _ := fun {s'} hs => ih (j + 1) s' hs ⟨by omega, hn2⟩ (by omega)
      cases q1 with
      | false =>
        repeat (first | refine Run.seq ?_ | refine Run.skip ?_ | refine Run.block ?_)
        refine Run.region ?_
        first | refine O.cmp rfl rfl rfl (by first | exact decide_eq_true (by omega) | exact decide_eq_false (by omega)) rfl ?_ | refine O.cmp rfl rfl rfl rfl rfl ?_
        refine O.nil ?_
        try refine Run.keep [0, 1, 2, 3, 8, 10, 14, 15, 16, 17, 18, 40] rfl rfl ?_
        repeat (first | refine Run.seq ?_ | refine Run.skip ?_)
        first | refine Run.condT rfl rfl ?_ | refine Run.condF rfl rfl ?_ | refine Run.condT rfl (by assumption) ?_ | refine Run.condF rfl (by assumption) ?_
        repeat (first | refine Run.seq ?_ | refine Run.skip ?_ | refine Run.block ?_)
        refine Run.region ?_
        refine O.index hE T42 rfl T46 rfl rfl newest_pv rfl (by omega) hat rfl rfl rfl ?_
        refine O.load hE T46 rfl rfl rfl rfl ?_
        refine O.alloc hE 10 T46 rfl rfl rfl ?_
        refine O.store hE T46 rfl rfl rfl rfl rfl rfl ?_
        refine O.nil ?_
        try refine Run.keep [0, 1, 2, 3, 8, 10, 14, 15, 16, 17, 18, 40] rfl rfl ?_
        repeat (first | refine Run.seq ?_ | refine Run.skip ?_ | refine Run.block ?_)
        refine Run.region ?_
        refine O.field hE L46 rfl rfl rfl rfl ?_
        first | refine O.loadS hE T3 rfl rfl rfl (by rfl) rfl ?_ | refine O.loadE hE T3 rfl rfl (by rfl) rfl ?_ | refine O.load hE T3 rfl rfl rfl rfl ?_
        refine O.move rfl rfl ?_
        refine O.cmp (c' := false) rfl rfl rfl h1' rfl ?_
        refine O.move rfl rfl ?_
        first | (refine O.yes rfl rfl (by first | rfl | assumption) ?_; refine O.field hE L46 rfl rfl rfl rfl ?_) | refine O.no rfl rfl rfl rfl ?_
        first | (refine O.yes rfl rfl (by first | rfl | assumption) ?_; first | refine O.loadS hE T3 rfl rfl rfl (by rfl) rfl ?_ | refine O.loadE hE T3 rfl rfl (by rfl) rfl ?_ | refine O.load hE T3 rfl rfl rfl rfl ?_) | refine O.no rfl rfl rfl rfl ?_
        first | (refine O.yes rfl rfl (by first | rfl | assumption) ?_; refine O.move rfl rfl ?_) | refine O.no rfl rfl rfl rfl ?_
        first | (refine O.yes rfl rfl (by first | rfl | assumption) ?_; refine O.cmp (c' := q2) rfl rfl rfl h2' rfl ?_) | refine O.no rfl rfl rfl rfl ?_
        refine O.pick rfl rfl rfl rfl rfl ?_
        refine O.move rfl rfl ?_
        first | (refine O.yes rfl rfl (by first | rfl | assumption) ?_; refine O.field hE L46 rfl rfl rfl rfl ?_) | refine O.no rfl rfl rfl rfl ?_
        first | (refine O.yes rfl rfl (by first | rfl | assumption) ?_; first | refine O.loadS hE T3 rfl rfl rfl (by rfl) rfl ?_ | refine O.loadE hE T3 rfl rfl (by rfl) rfl ?_ | refine O.load hE T3 rfl rfl rfl rfl ?_) | refine O.no rfl rfl rfl rfl ?_
        first | (refine O.yes rfl rfl (by first | rfl | assumption) ?_; refine O.move rfl rfl ?_) | refine O.no rfl rfl rfl rfl ?_
        first | (refine O.yes rfl rfl (by first | rfl | assumption) ?_; refine O.cmp (c' := q3) rfl rfl rfl h3' rfl ?_) | refine O.no rfl rfl rfl rfl ?_
        refine O.pick rfl rfl rfl rfl rfl ?_
        refine O.move rfl rfl ?_
        first | (refine O.yes rfl rfl (by first | rfl | assumption) ?_; refine O.field hE L46 rfl rfl rfl rfl ?_) | refine O.no rfl rfl rfl rfl ?_
        first | (refine O.yes rfl rfl (by first | rfl | assumption) ?_; first | refine O.loadS hE T4 rfl rfl rfl (by rfl) rfl ?_ | refine O.loadE hE T4 rfl rfl (by rfl) rfl ?_ | refine O.load hE T4 rfl rfl rfl rfl ?_) | refine O.no rfl rfl rfl rfl ?_
        refine O.pick rfl rfl rfl rfl rfl ?_
        refine O.nil ?_
        try refine Run.keep [0, 1, 2, 3, 8, 10, 14, 15, 16, 17, 18, 40] rfl rfl ?_
        repeat (first | refine Run.seq ?_ | refine Run.skip ?_)
        first | refine Run.condT rfl rfl ?_ | refine Run.condF rfl rfl ?_ | refine Run.condT rfl (by assumption) ?_ | refine Run.condF rfl (by assumption) ?_
        repeat (first | refine Run.seq ?_ | refine Run.skip ?_ | refine Run.block ?_)
        refine Run.region ?_
        first | refine O.ar rfl rfl rfl (by exact wrap_i64 (by omega) (by omega)) rfl ?_ | refine O.ar rfl rfl rfl rfl rfl ?_
        refine O.move rfl rfl ?_
        refine O.nil ?_
        try refine Run.keep [0, 1, 2, 3, 8, 10, 14, 15, 16, 17, 18, 40] rfl rfl ?_
        exact go (SLe.drop (by repeat (first | exact TmIn.nil | refine TmIn.cons rfl ?_)) (by repeat (first | exact BxIn.nil | refine BxIn.cons rfl ?_)) rfl rfl)
      | true =>
        cases q2 with
        | false =>
          repeat (first | refine Run.seq ?_ | refine Run.skip ?_ | refine Run.block ?_)
          refine Run.region ?_
          first | refine O.cmp rfl rfl rfl (by first | exact decide_eq_true (by omega) | exact decide_eq_false (by omega)) rfl ?_ | refine O.cmp rfl rfl rfl rfl rfl ?_
          refine O.nil ?_
          try refine Run.keep [0, 1, 2, 3, 8, 10, 14, 15, 16, 17, 18, 40] rfl rfl ?_
          repeat (first | refine Run.seq ?_ | refine Run.skip ?_)
          first | refine Run.condT rfl rfl ?_ | refine Run.condF rfl rfl ?_ | refine Run.condT rfl (by assumption) ?_ | refine Run.condF rfl (by assumption) ?_
          repeat (first | refine Run.seq ?_ | refine Run.skip ?_ | refine Run.block ?_)
          refine Run.region ?_
          refine O.index hE T42 rfl T46 rfl rfl newest_pv rfl (by omega) hat rfl rfl rfl ?_
          refine O.load hE T46 rfl rfl rfl rfl ?_
          refine O.alloc hE 10 T46 rfl rfl rfl ?_
          refine O.store hE T46 rfl rfl rfl rfl rfl rfl ?_
          refine O.nil ?_
          try refine Run.keep [0, 1, 2, 3, 8, 10, 14, 15, 16, 17, 18, 40] rfl rfl ?_
          repeat (first | refine Run.seq ?_ | refine Run.skip ?_ | refine Run.block ?_)
          refine Run.region ?_
          refine O.field hE L46 rfl rfl rfl rfl ?_
          first | refine O.loadS hE T3 rfl rfl rfl (by rfl) rfl ?_ | refine O.loadE hE T3 rfl rfl (by rfl) rfl ?_ | refine O.load hE T3 rfl rfl rfl rfl ?_
          refine O.move rfl rfl ?_
          refine O.cmp (c' := true) rfl rfl rfl h1' rfl ?_
          refine O.move rfl rfl ?_
          first | (refine O.yes rfl rfl (by first | rfl | assumption) ?_; refine O.field hE L46 rfl rfl rfl rfl ?_) | refine O.no rfl rfl rfl rfl ?_
          first | (refine O.yes rfl rfl (by first | rfl | assumption) ?_; first | refine O.loadS hE T3 rfl rfl rfl (by rfl) rfl ?_ | refine O.loadE hE T3 rfl rfl (by rfl) rfl ?_ | refine O.load hE T3 rfl rfl rfl rfl ?_) | refine O.no rfl rfl rfl rfl ?_
          first | (refine O.yes rfl rfl (by first | rfl | assumption) ?_; refine O.move rfl rfl ?_) | refine O.no rfl rfl rfl rfl ?_
          first | (refine O.yes rfl rfl (by first | rfl | assumption) ?_; refine O.cmp (c' := false) rfl rfl rfl h2' rfl ?_) | refine O.no rfl rfl rfl rfl ?_
          refine O.pick rfl rfl rfl rfl rfl ?_
          refine O.move rfl rfl ?_
          first | (refine O.yes rfl rfl (by first | rfl | assumption) ?_; refine O.field hE L46 rfl rfl rfl rfl ?_) | refine O.no rfl rfl rfl rfl ?_
          first | (refine O.yes rfl rfl (by first | rfl | assumption) ?_; first | refine O.loadS hE T3 rfl rfl rfl (by rfl) rfl ?_ | refine O.loadE hE T3 rfl rfl (by rfl) rfl ?_ | refine O.load hE T3 rfl rfl rfl rfl ?_) | refine O.no rfl rfl rfl rfl ?_
          first | (refine O.yes rfl rfl (by first | rfl | assumption) ?_; refine O.move rfl rfl ?_) | refine O.no rfl rfl rfl rfl ?_
          first | (refine O.yes rfl rfl (by first | rfl | assumption) ?_; refine O.cmp (c' := q3) rfl rfl rfl h3' rfl ?_) | refine O.no rfl rfl rfl rfl ?_
          refine O.pick rfl rfl rfl rfl rfl ?_
          refine O.move rfl rfl ?_
          first | (refine O.yes rfl rfl (by first | rfl | assumption) ?_; refine O.field hE L46 rfl rfl rfl rfl ?_) | refine O.no rfl rfl rfl rfl ?_
          first | (refine O.yes rfl rfl (by first | rfl | assumption) ?_; first | refine O.loadS hE T4 rfl rfl rfl (by rfl) rfl ?_ | refine O.loadE hE T4 rfl rfl (by rfl) rfl ?_ | refine O.load hE T4 rfl rfl rfl rfl ?_) | refine O.no rfl rfl rfl rfl ?_
          refine O.pick rfl rfl rfl rfl rfl ?_
          refine O.nil ?_
          try refine Run.keep [0, 1, 2, 3, 8, 10, 14, 15, 16, 17, 18, 40] rfl rfl ?_
          repeat (first | refine Run.seq ?_ | refine Run.skip ?_)
          first | refine Run.condT rfl rfl ?_ | refine Run.condF rfl rfl ?_ | refine Run.condT rfl (by assumption) ?_ | refine Run.condF rfl (by assumption) ?_
          repeat (first | refine Run.seq ?_ | refine Run.skip ?_ | refine Run.block ?_)
          refine Run.region ?_
          first | refine O.ar rfl rfl rfl (by exact wrap_i64 (by omega) (by omega)) rfl ?_ | refine O.ar rfl rfl rfl rfl rfl ?_
          refine O.move rfl rfl ?_
          refine O.nil ?_
          try refine Run.keep [0, 1, 2, 3, 8, 10, 14, 15, 16, 17, 18, 40] rfl rfl ?_
          exact go (SLe.drop (by repeat (first | exact TmIn.nil | refine TmIn.cons rfl ?_)) (by repeat (first | exact BxIn.nil | refine BxIn.cons rfl ?_)) rfl rfl)
        | true =>
          cases q3 with
          | false =>
            repeat (first | refine Run.seq ?_ | refine Run.skip ?_ | refine Run.block ?_)
            refine Run.region ?_
            first | refine O.cmp rfl rfl rfl (by first | exact decide_eq_true (by omega) | exact decide_eq_false (by omega)) rfl ?_ | refine O.cmp rfl rfl rfl rfl rfl ?_
            refine O.nil ?_
            try refine Run.keep [0, 1, 2, 3, 8, 10, 14, 15, 16, 17, 18, 40] rfl rfl ?_
            repeat (first | refine Run.seq ?_ | refine Run.skip ?_)
            first | refine Run.condT rfl rfl ?_ | refine Run.condF rfl rfl ?_ | refine Run.condT rfl (by assumption) ?_ | refine Run.condF rfl (by assumption) ?_
            repeat (first | refine Run.seq ?_ | refine Run.skip ?_ | refine Run.block ?_)
            refine Run.region ?_
            refine O.index hE T42 rfl T46 rfl rfl newest_pv rfl (by omega) hat rfl rfl rfl ?_
            refine O.load hE T46 rfl rfl rfl rfl ?_
            refine O.alloc hE 10 T46 rfl rfl rfl ?_
            refine O.store hE T46 rfl rfl rfl rfl rfl rfl ?_
            refine O.nil ?_
            try refine Run.keep [0, 1, 2, 3, 8, 10, 14, 15, 16, 17, 18, 40] rfl rfl ?_
            repeat (first | refine Run.seq ?_ | refine Run.skip ?_ | refine Run.block ?_)
            refine Run.region ?_
            refine O.field hE L46 rfl rfl rfl rfl ?_
            first | refine O.loadS hE T3 rfl rfl rfl (by rfl) rfl ?_ | refine O.loadE hE T3 rfl rfl (by rfl) rfl ?_ | refine O.load hE T3 rfl rfl rfl rfl ?_
            refine O.move rfl rfl ?_
            refine O.cmp (c' := true) rfl rfl rfl h1' rfl ?_
            refine O.move rfl rfl ?_
            first | (refine O.yes rfl rfl (by first | rfl | assumption) ?_; refine O.field hE L46 rfl rfl rfl rfl ?_) | refine O.no rfl rfl rfl rfl ?_
            first | (refine O.yes rfl rfl (by first | rfl | assumption) ?_; first | refine O.loadS hE T3 rfl rfl rfl (by rfl) rfl ?_ | refine O.loadE hE T3 rfl rfl (by rfl) rfl ?_ | refine O.load hE T3 rfl rfl rfl rfl ?_) | refine O.no rfl rfl rfl rfl ?_
            first | (refine O.yes rfl rfl (by first | rfl | assumption) ?_; refine O.move rfl rfl ?_) | refine O.no rfl rfl rfl rfl ?_
            first | (refine O.yes rfl rfl (by first | rfl | assumption) ?_; refine O.cmp (c' := true) rfl rfl rfl h2' rfl ?_) | refine O.no rfl rfl rfl rfl ?_
            refine O.pick rfl rfl rfl rfl rfl ?_
            refine O.move rfl rfl ?_
            first | (refine O.yes rfl rfl (by first | rfl | assumption) ?_; refine O.field hE L46 rfl rfl rfl rfl ?_) | refine O.no rfl rfl rfl rfl ?_
            first | (refine O.yes rfl rfl (by first | rfl | assumption) ?_; first | refine O.loadS hE T3 rfl rfl rfl (by rfl) rfl ?_ | refine O.loadE hE T3 rfl rfl (by rfl) rfl ?_ | refine O.load hE T3 rfl rfl rfl rfl ?_) | refine O.no rfl rfl rfl rfl ?_
            first | (refine O.yes rfl rfl (by first | rfl | assumption) ?_; refine O.move rfl rfl ?_) | refine O.no rfl rfl rfl rfl ?_
            first | (refine O.yes rfl rfl (by first | rfl | assumption) ?_; refine O.cmp (c' := false) rfl rfl rfl h3' rfl ?_) | refine O.no rfl rfl rfl rfl ?_
            refine O.pick rfl rfl rfl rfl rfl ?_
            refine O.move rfl rfl ?_
            first | (refine O.yes rfl rfl (by first | rfl | assumption) ?_; refine O.field hE L46 rfl rfl rfl rfl ?_) | refine O.no rfl rfl rfl rfl ?_
            first | (refine O.yes rfl rfl (by first | rfl | assumption) ?_; first | refine O.loadS hE T4 rfl rfl rfl (by rfl) rfl ?_ | refine O.loadE hE T4 rfl rfl (by rfl) rfl ?_ | refine O.load hE T4 rfl rfl rfl rfl ?_) | refine O.no rfl rfl rfl rfl ?_
            refine O.pick rfl rfl rfl rfl rfl ?_
            refine O.nil ?_
            try refine Run.keep [0, 1, 2, 3, 8, 10, 14, 15, 16, 17, 18, 40] rfl rfl ?_
            repeat (first | refine Run.seq ?_ | refine Run.skip ?_)
            first | refine Run.condT rfl rfl ?_ | refine Run.condF rfl rfl ?_ | refine Run.condT rfl (by assumption) ?_ | refine Run.condF rfl (by assumption) ?_
            repeat (first | refine Run.seq ?_ | refine Run.skip ?_ | refine Run.block ?_)
            refine Run.region ?_
            first | refine O.ar rfl rfl rfl (by exact wrap_i64 (by omega) (by omega)) rfl ?_ | refine O.ar rfl rfl rfl rfl rfl ?_
            refine O.move rfl rfl ?_
            refine O.nil ?_
            try refine Run.keep [0, 1, 2, 3, 8, 10, 14, 15, 16, 17, 18, 40] rfl rfl ?_
            exact go (SLe.drop (by repeat (first | exact TmIn.nil | refine TmIn.cons rfl ?_)) (by repeat (first | exact BxIn.nil | refine BxIn.cons rfl ?_)) rfl rfl)
          | true =>
            have e4 : op = false := by simpa using hp
            subst e4
            repeat (first | refine Run.seq ?_ | refine Run.skip ?_ | refine Run.block ?_)
            refine Run.region ?_
            first | refine O.cmp rfl rfl rfl (by first | exact decide_eq_true (by omega) | exact decide_eq_false (by omega)) rfl ?_ | refine O.cmp rfl rfl rfl rfl rfl ?_
            refine O.nil ?_
            try refine Run.keep [0, 1, 2, 3, 8, 10, 14, 15, 16, 17, 18, 40] rfl rfl ?_
            repeat (first | refine Run.seq ?_ | refine Run.skip ?_)
            first | refine Run.condT rfl rfl ?_ | refine Run.condF rfl rfl ?_ | refine Run.condT rfl (by assumption) ?_ | refine Run.condF rfl (by assumption) ?_
            repeat (first | refine Run.seq ?_ | refine Run.skip ?_ | refine Run.block ?_)
            refine Run.region ?_
            refine O.index hE T42 rfl T46 rfl rfl newest_pv rfl (by omega) hat rfl rfl rfl ?_
            refine O.load hE T46 rfl rfl rfl rfl ?_
            refine O.alloc hE 10 T46 rfl rfl rfl ?_
            refine O.store hE T46 rfl rfl rfl rfl rfl rfl ?_
            refine O.nil ?_
            try refine Run.keep [0, 1, 2, 3, 8, 10, 14, 15, 16, 17, 18, 40] rfl rfl ?_
            repeat (first | refine Run.seq ?_ | refine Run.skip ?_ | refine Run.block ?_)
            refine Run.region ?_
            refine O.field hE L46 rfl rfl rfl rfl ?_
            first | refine O.loadS hE T3 rfl rfl rfl (by rfl) rfl ?_ | refine O.loadE hE T3 rfl rfl (by rfl) rfl ?_ | refine O.load hE T3 rfl rfl rfl rfl ?_
            refine O.move rfl rfl ?_
            refine O.cmp (c' := true) rfl rfl rfl h1' rfl ?_
            refine O.move rfl rfl ?_
            first | (refine O.yes rfl rfl (by first | rfl | assumption) ?_; refine O.field hE L46 rfl rfl rfl rfl ?_) | refine O.no rfl rfl rfl rfl ?_
            first | (refine O.yes rfl rfl (by first | rfl | assumption) ?_; first | refine O.loadS hE T3 rfl rfl rfl (by rfl) rfl ?_ | refine O.loadE hE T3 rfl rfl (by rfl) rfl ?_ | refine O.load hE T3 rfl rfl rfl rfl ?_) | refine O.no rfl rfl rfl rfl ?_
            first | (refine O.yes rfl rfl (by first | rfl | assumption) ?_; refine O.move rfl rfl ?_) | refine O.no rfl rfl rfl rfl ?_
            first | (refine O.yes rfl rfl (by first | rfl | assumption) ?_; refine O.cmp (c' := true) rfl rfl rfl h2' rfl ?_) | refine O.no rfl rfl rfl rfl ?_
            refine O.pick rfl rfl rfl rfl rfl ?_
            refine O.move rfl rfl ?_
            first | (refine O.yes rfl rfl (by first | rfl | assumption) ?_; refine O.field hE L46 rfl rfl rfl rfl ?_) | refine O.no rfl rfl rfl rfl ?_
            first | (refine O.yes rfl rfl (by first | rfl | assumption) ?_; first | refine O.loadS hE T3 rfl rfl rfl (by rfl) rfl ?_ | refine O.loadE hE T3 rfl rfl (by rfl) rfl ?_ | refine O.load hE T3 rfl rfl rfl rfl ?_) | refine O.no rfl rfl rfl rfl ?_
            first | (refine O.yes rfl rfl (by first | rfl | assumption) ?_; refine O.move rfl rfl ?_) | refine O.no rfl rfl rfl rfl ?_
            first | (refine O.yes rfl rfl (by first | rfl | assumption) ?_; refine O.cmp (c' := true) rfl rfl rfl h3' rfl ?_) | refine O.no rfl rfl rfl rfl ?_
            refine O.pick rfl rfl rfl rfl rfl ?_
            refine O.move rfl rfl ?_
            first | (refine O.yes rfl rfl (by first | rfl | assumption) ?_; refine O.field hE L46 rfl rfl rfl rfl ?_) | refine O.no rfl rfl rfl rfl ?_
            first | (refine O.yes rfl rfl (by first | rfl | assumption) ?_; first | refine O.loadS hE T4 rfl rfl rfl (by rfl) rfl ?_ | refine O.loadE hE T4 rfl rfl (by rfl) rfl ?_ | refine O.load hE T4 rfl rfl rfl rfl ?_) | refine O.no rfl rfl rfl rfl ?_
            refine O.pick rfl rfl rfl rfl rfl ?_
            refine O.nil ?_
            try refine Run.keep [0, 1, 2, 3, 8, 10, 14, 15, 16, 17, 18, 40] rfl rfl ?_
            repeat (first | refine Run.seq ?_ | refine Run.skip ?_)
            first | refine Run.condT rfl rfl ?_ | refine Run.condF rfl rfl ?_ | refine Run.condT rfl (by assumption) ?_ | refine Run.condF rfl (by assumption) ?_
            repeat (first | refine Run.seq ?_ | refine Run.skip ?_ | refine Run.block ?_)
            refine Run.region ?_
            first | refine O.ar rfl rfl rfl (by exact wrap_i64 (by omega) (by omega)) rfl ?_ | refine O.ar rfl rfl rfl rfl rfl ?_
            refine O.move rfl rfl ?_
            refine O.nil ?_
            try refine Run.keep [0, 1, 2, 3, 8, 10, 14, 15, 16, 17, 18, 40] rfl rfl ?_
            exact go (SLe.drop (by repeat (first | exact TmIn.nil | refine TmIn.cons rfl ?_)) (by repeat (first | exact BxIn.nil | refine BxIn.cons rfl ?_)) rfl rfl)
  obtain rfl : j = l.length := by omega
  have hAf : A = false := by rw [← hA]; exact any_none fun i x hx => hno i x (List.getElem?_eq_some_iff.1 hx).1 hx
  subst hAf
  repeat (first | refine Run.seq ?_ | refine Run.skip ?_ | refine Run.block ?_)
  refine Run.region ?_
  first | refine O.cmp rfl rfl rfl (by first | exact decide_eq_true (by omega) | exact decide_eq_false (by omega)) rfl ?_ | refine O.cmp rfl rfl rfl rfl rfl ?_
  refine O.nil ?_
  try refine Run.keep [0, 1, 2, 3, 8, 10, 14, 15, 16, 17, 18, 40] rfl rfl ?_
  repeat (first | refine Run.seq ?_ | refine Run.skip ?_)
  first | refine Run.condT rfl rfl ?_ | refine Run.condF rfl rfl ?_ | refine Run.condT rfl (by assumption) ?_ | refine Run.condF rfl (by assumption) ?_
  refine Run.exit ?_
  repeat (first | refine thenR_exit ?_ | refine roundR_exit ?_ | refine blockR_exit ?_ | refine blockR_pass rfl ?_)
  repeat (first | refine Run.seq ?_ | refine Run.skip ?_ | refine Run.block ?_)
  refine Run.region ?_
  refine O.assign rfl rfl ?_
  refine O.nil ?_
  try refine Run.keep [0, 1, 2, 3, 8, 10, 14, 15, 16, 17, 18, 40] rfl rfl ?_
  (repeat (first | refine Run.seq ?_ | refine Run.skip ?_)); (try refine Run.ret ?_); first | exact Ends.flat hE (.inr rfl) rfl rfl (AVle.of_eq rfl) rfl | exact Ends.flat hE (.inl rfl) rfl rfl (AVle.of_eq rfl) rfl
theorem fnHas {l : List Gr} {u o r : Int} (h0 : 0 ≤ o) (h1 : o < 12) (hl : l.length ≤ 96) (ca : FnC (En Try.prog g) 29 [.pv (.lst 5 (l.map grE)), .pv (.int .i64 u), .pv (.int .i64 o), .pv (.int .i64 r)] (.pv (.int .i64 0)) []) : FnC (En Try.prog g) 15 [.pv (.lst 5 (l.map grE)), .pv (.int .i64 u), .pv (.int .i64 o), .pv (.int .i64 r)] (.tup [.pv (.bool (hasP l u o r)), .pv (.int .i64 0)]) [] := by
  have hE := EnOk g
  have c1 := fnOwner (g := g) h0 h1
  unfold hasP
  generalize o / 4 = q at *
  by_cases hq : q = u
  ·
    rw [decide_eq_true hq, Bool.true_or]
    refine FnC.of Try.func15 rfl rfl rfl rfl ?_
    repeat (first | refine Run.seq ?_ | refine Run.skip ?_ | refine Run.block ?_)
    refine Run.region ?_
    refine O.assign rfl rfl ?_
    refine O.assign rfl rfl ?_
    refine O.nil ?_
    try refine Run.keep [0, 1, 2, 3, 8, 9, 10, 12, 19, 24, 25, 26, 27, 28, 46] rfl rfl ?_
    repeat (first | refine Run.seq ?_ | refine Run.skip ?_ | refine Run.block ?_)
    refine Run.region ?_
    refine O.move rfl rfl ?_
    refine O.move rfl rfl ?_
    refine O.move rfl rfl ?_
    refine O.move rfl rfl ?_
    refine O.callE ca rfl (by first | rfl | simp [closed, men3, mens2_app, mens2_ints, mens2, men2, men1, mens1_app, mens1_ints, mens1]) (by first | rfl | simp [d2, ds1_ints, ds1_app, ds1, d1, ds0_app, ds0_ints, ds0, d0]) rfl ?_
    refine O.assign rfl rfl ?_
    refine O.nil ?_
    try refine Run.keep [0, 1, 2, 3, 8, 9, 10, 12, 19, 24, 25, 26, 27, 28, 46] rfl rfl ?_
    repeat (first | refine Run.seq ?_ | refine Run.skip ?_ | refine Run.block ?_)
    refine Run.region ?_
    refine O.move rfl rfl ?_
    first | refine O.cmp rfl rfl rfl (by first | exact decide_eq_true (by omega) | exact decide_eq_false (by omega)) rfl ?_ | refine O.cmp rfl rfl rfl rfl rfl ?_
    refine O.nil ?_
    try refine Run.keep [0, 1, 2, 3, 8, 9, 10, 12, 19, 24, 25, 26, 27, 28, 46] rfl rfl ?_
    repeat (first | refine Run.seq ?_ | refine Run.skip ?_)
    first | refine Run.condT rfl rfl ?_ | refine Run.condF rfl rfl ?_ | refine Run.condT rfl (by assumption) ?_ | refine Run.condF rfl (by assumption) ?_
    repeat (first | refine Run.seq ?_ | refine Run.skip ?_ | refine Run.block ?_)
    refine Run.region ?_
    refine O.move rfl rfl ?_
    refine O.callE c1 rfl (by first | rfl | simp [closed, men3, mens2_app, mens2_ints, mens2, men2, men1, mens1_app, mens1_ints, mens1]) (by first | rfl | simp [d2, ds1_ints, ds1_app, ds1, d1, ds0_app, ds0_ints, ds0, d0]) rfl ?_
    refine O.move rfl rfl ?_
    refine O.cmp (c' := true) rfl rfl rfl (by simpa using hq) rfl ?_
    refine O.nil ?_
    try refine Run.keep [0, 1, 2, 3, 8, 9, 10, 12, 19, 24, 25, 26, 27, 28, 46] rfl rfl ?_
    repeat (first | refine Run.seq ?_ | refine Run.skip ?_)
    first | refine Run.condT rfl rfl ?_ | refine Run.condF rfl rfl ?_ | refine Run.condT rfl (by assumption) ?_ | refine Run.condF rfl (by assumption) ?_
    repeat (first | refine Run.seq ?_ | refine Run.skip ?_ | refine Run.block ?_)
    refine Run.region ?_
    refine O.assign rfl rfl ?_
    refine O.assign rfl rfl ?_
    refine O.nil ?_
    try refine Run.keep [0, 1, 2, 3, 8, 9, 10, 12, 19, 24, 25, 26, 27, 28, 46] rfl rfl ?_
    refine Run.ret ?_
    (repeat (first | refine Run.seq ?_ | refine Run.skip ?_)); (try refine Run.ret ?_); first | exact Ends.flat hE (.inr rfl) rfl rfl (AVle.of_eq rfl) rfl | exact Ends.flat hE (.inl rfl) rfl rfl (AVle.of_eq rfl) rfl
  rw [decide_eq_false hq, Bool.false_or]
  obtain ⟨A, hA⟩ : ∃ A, (l.any (fun x => got u o r x)) = A := ⟨_, rfl⟩
  rw [hA]
  refine FnC.of Try.func15 rfl rfl rfl rfl ?_
  repeat (first | refine Run.seq ?_ | refine Run.skip ?_ | refine Run.block ?_)
  refine Run.region ?_
  refine O.assign rfl rfl ?_
  refine O.assign rfl rfl ?_
  refine O.nil ?_
  try refine Run.keep [0, 1, 2, 3, 8, 9, 10, 12, 19, 24, 25, 26, 27, 28, 46] rfl rfl ?_
  repeat (first | refine Run.seq ?_ | refine Run.skip ?_ | refine Run.block ?_)
  refine Run.region ?_
  refine O.move rfl rfl ?_
  refine O.move rfl rfl ?_
  refine O.move rfl rfl ?_
  refine O.move rfl rfl ?_
  refine O.callE ca rfl (by first | rfl | simp [closed, men3, mens2_app, mens2_ints, mens2, men2, men1, mens1_app, mens1_ints, mens1]) (by first | rfl | simp [d2, ds1_ints, ds1_app, ds1, d1, ds0_app, ds0_ints, ds0, d0]) rfl ?_
  refine O.assign rfl rfl ?_
  refine O.nil ?_
  try refine Run.keep [0, 1, 2, 3, 8, 9, 10, 12, 19, 24, 25, 26, 27, 28, 46] rfl rfl ?_
  repeat (first | refine Run.seq ?_ | refine Run.skip ?_ | refine Run.block ?_)
  refine Run.region ?_
  refine O.move rfl rfl ?_
  first | refine O.cmp rfl rfl rfl (by first | exact decide_eq_true (by omega) | exact decide_eq_false (by omega)) rfl ?_ | refine O.cmp rfl rfl rfl rfl rfl ?_
  refine O.nil ?_
  try refine Run.keep [0, 1, 2, 3, 8, 9, 10, 12, 19, 24, 25, 26, 27, 28, 46] rfl rfl ?_
  repeat (first | refine Run.seq ?_ | refine Run.skip ?_)
  first | refine Run.condT rfl rfl ?_ | refine Run.condF rfl rfl ?_ | refine Run.condT rfl (by assumption) ?_ | refine Run.condF rfl (by assumption) ?_
  repeat (first | refine Run.seq ?_ | refine Run.skip ?_ | refine Run.block ?_)
  refine Run.region ?_
  refine O.move rfl rfl ?_
  refine O.callE c1 rfl (by first | rfl | simp [closed, men3, mens2_app, mens2_ints, mens2, men2, men1, mens1_app, mens1_ints, mens1]) (by first | rfl | simp [d2, ds1_ints, ds1_app, ds1, d1, ds0_app, ds0_ints, ds0, d0]) rfl ?_
  refine O.move rfl rfl ?_
  refine O.cmp (c' := false) rfl rfl rfl (by simpa using hq) rfl ?_
  refine O.nil ?_
  try refine Run.keep [0, 1, 2, 3, 8, 9, 10, 12, 19, 24, 25, 26, 27, 28, 46] rfl rfl ?_
  repeat (first | refine Run.seq ?_ | refine Run.skip ?_)
  first | refine Run.condT rfl rfl ?_ | refine Run.condF rfl rfl ?_ | refine Run.condT rfl (by assumption) ?_ | refine Run.condF rfl (by assumption) ?_
  repeat (first | refine Run.seq ?_ | refine Run.skip ?_ | refine Run.block ?_)
  refine Run.region ?_
  refine O.move rfl rfl ?_
  first | refine O.lenN hE T42 rfl rfl rfl (by first | exact newest_pv | exact newest_gl rfl rfl | trivial) lenC rfl ?_ | refine O.lenLst hE T42 rfl rfl rfl (by first | exact newest_pv | exact newest_gl rfl rfl | trivial) rfl ?_
  refine O.move rfl rfl ?_
  refine O.nil ?_
  try refine Run.keep [0, 1, 2, 3, 8, 9, 10, 12, 19, 24, 25, 26, 27, 28, 46] rfl rfl ?_
  repeat (first | refine Run.seq ?_ | refine Run.skip ?_)
  refine Run.block ?_
  refine Run.loopInv (ι := Nat) (fun j => j ≤ l.length ∧ ∀ i x, i < j → l[i]? = some x → (fun x => got u o r x) x = false) (fun j => ⟨48, [(1, .pv (.int .i64 u)), (2, .pv (.int .i64 o)), (3, .pv (.int .i64 r)), (25, .pv (.lst 5 (l.map grE))), (26, .pv (.int .i64 l.length)), (27, .pv (.int .i64 (j : Int)))], []⟩) (fun j => l.length - j) 0 ⟨Nat.zero_le _, fun i x hi => by omega⟩ ?_ ?_
  ·
    refine SLe.eqv (by repeat (first | exact TmIn.nil | refine TmIn.cons rfl ?_)) (by repeat (first | exact BxIn.nil | refine BxIn.cons rfl ?_)) rfl
  rintro j ⟨hj, hno⟩ ih
  by_cases hlt : j < l.length
  ·
    obtain ⟨x, hv⟩ : ∃ x, l[j]? = some x := ⟨_, List.getElem?_eq_getElem hlt⟩
    have hat : (l.map grE)[(j : Int).toNat]? = some (grE x) := by rw [Int.toNat_natCast, List.getElem?_map, hv]; rfl
    obtain ⟨p, hp⟩ : ∃ p, (fun x => got u o r x) x = p := ⟨_, rfl⟩
    have hp2 := hp
    unfold got at hp
    obtain ⟨fr, tt, ob, rt, op⟩ := x
    dsimp only at hp
    cases p with
    | true =>
      have hAt : A = true := by rw [← hA]; exact any_take hv hp2
      obtain ⟨⟨e1, e2⟩, e3⟩ : (tt = u ∧ ob = o) ∧ rt = r := by simpa using hp
      
      repeat (first | refine Run.seq ?_ | refine Run.skip ?_ | refine Run.block ?_)
      refine Run.region ?_
      first | refine O.cmp rfl rfl rfl (by first | exact decide_eq_true (by omega) | exact decide_eq_false (by omega)) rfl ?_ | refine O.cmp rfl rfl rfl rfl rfl ?_
      refine O.nil ?_
      try refine Run.keep [0, 1, 2, 3, 8, 9, 10, 12, 19, 24, 25, 26, 27, 28, 46] rfl rfl ?_
      repeat (first | refine Run.seq ?_ | refine Run.skip ?_)
      first | refine Run.condT rfl rfl ?_ | refine Run.condF rfl rfl ?_ | refine Run.condT rfl (by assumption) ?_ | refine Run.condF rfl (by assumption) ?_
      repeat (first | refine Run.seq ?_ | refine Run.skip ?_ | refine Run.block ?_)
      refine Run.region ?_
      refine O.index hE T42 rfl T46 rfl rfl newest_pv rfl (by omega) hat rfl rfl rfl ?_
      refine O.load hE T46 rfl rfl rfl rfl ?_
      refine O.alloc hE 12 T46 rfl rfl rfl ?_
      refine O.store hE T46 rfl rfl rfl rfl rfl rfl ?_
      refine O.nil ?_
      try refine Run.keep [0, 1, 2, 3, 8, 9, 10, 12, 19, 24, 25, 26, 27, 28, 46] rfl rfl ?_
      repeat (first | refine Run.seq ?_ | refine Run.skip ?_ | refine Run.block ?_)
      refine Run.region ?_
      refine O.field hE L46 rfl rfl rfl rfl ?_
      first | refine O.loadS hE T3 rfl rfl rfl (by rfl) rfl ?_ | refine O.loadE hE T3 rfl rfl (by rfl) rfl ?_ | refine O.load hE T3 rfl rfl rfl rfl ?_
      refine O.move rfl rfl ?_
      refine O.cmp (c' := true) rfl rfl rfl (decide_eq_true e1) rfl ?_
      refine O.move rfl rfl ?_
      first | (refine O.yes rfl rfl (by first | rfl | assumption) ?_; refine O.field hE L46 rfl rfl rfl rfl ?_) | refine O.no rfl rfl rfl rfl ?_
      first | (refine O.yes rfl rfl (by first | rfl | assumption) ?_; first | refine O.loadS hE T3 rfl rfl rfl (by rfl) rfl ?_ | refine O.loadE hE T3 rfl rfl (by rfl) rfl ?_ | refine O.load hE T3 rfl rfl rfl rfl ?_) | refine O.no rfl rfl rfl rfl ?_
      first | (refine O.yes rfl rfl (by first | rfl | assumption) ?_; refine O.move rfl rfl ?_) | refine O.no rfl rfl rfl rfl ?_
      first | (refine O.yes rfl rfl (by first | rfl | assumption) ?_; refine O.cmp (c' := true) rfl rfl rfl (decide_eq_true e2) rfl ?_) | refine O.no rfl rfl rfl rfl ?_
      refine O.pick rfl rfl rfl rfl rfl ?_
      refine O.move rfl rfl ?_
      first | (refine O.yes rfl rfl (by first | rfl | assumption) ?_; refine O.field hE L46 rfl rfl rfl rfl ?_) | refine O.no rfl rfl rfl rfl ?_
      first | (refine O.yes rfl rfl (by first | rfl | assumption) ?_; first | refine O.loadS hE T3 rfl rfl rfl (by rfl) rfl ?_ | refine O.loadE hE T3 rfl rfl (by rfl) rfl ?_ | refine O.load hE T3 rfl rfl rfl rfl ?_) | refine O.no rfl rfl rfl rfl ?_
      first | (refine O.yes rfl rfl (by first | rfl | assumption) ?_; refine O.move rfl rfl ?_) | refine O.no rfl rfl rfl rfl ?_
      first | (refine O.yes rfl rfl (by first | rfl | assumption) ?_; refine O.cmp (c' := true) rfl rfl rfl (decide_eq_true e3) rfl ?_) | refine O.no rfl rfl rfl rfl ?_
      refine O.pick rfl rfl rfl rfl rfl ?_
      refine O.nil ?_
      try refine Run.keep [0, 1, 2, 3, 8, 9, 10, 12, 19, 24, 25, 26, 27, 28, 46] rfl rfl ?_
      repeat (first | refine Run.seq ?_ | refine Run.skip ?_)
      first | refine Run.condT rfl rfl ?_ | refine Run.condF rfl rfl ?_ | refine Run.condT rfl (by assumption) ?_ | refine Run.condF rfl (by assumption) ?_
      repeat (first | refine Run.seq ?_ | refine Run.skip ?_ | refine Run.block ?_)
      refine Run.region ?_
      refine O.assign rfl rfl ?_
      refine O.assign rfl rfl ?_
      refine O.nil ?_
      try refine Run.keep [0, 1, 2, 3, 8, 9, 10, 12, 19, 24, 25, 26, 27, 28, 46] rfl rfl ?_
      refine Run.ret ?_
      repeat (first | refine thenR_ret ?_ | refine roundR_ret ?_ | refine blockR_ret ?_)
      rw [hAt]
      exact Ends.of hE (.inr rfl) rfl rfl (SLe.res0 (AVle.of_eq rfl) rfl)
    | false =>
      have hn2 : ∀ i x, i < j + 1 → l[i]? = some x → (fun x => got u o r x) x = false := fun i x hi hx => by
        by_cases hij : i < j
        · exact hno i x hij hx
        · obtain rfl : i = j := by omega
          rw [hv] at hx
          obtain rfl := Option.some.inj hx
          exact hp2
      obtain ⟨q1, h1'⟩ : ∃ q1, decide (tt = u) = q1 := ⟨_, rfl⟩
      obtain ⟨q2, h2'⟩ : ∃ q2, decide (ob = o) = q2 := ⟨_, rfl⟩
      obtain ⟨q3, h3'⟩ : ∃ q3, decide (rt = r) = q3 := ⟨_, rfl⟩
      rw [h1', h2', h3'] at hp
      clear hp2 hA hno
      have go : ∀ {s' : St}, SLe s' ⟨48, [(1, .pv (.int .i64 u)), (2, .pv (.int .i64 o)), (3, .pv (.int .i64 r)), (25, .pv (.lst 5 (l.map grE))), (26, .pv (.int .i64 l.length)), (27, .pv (.int .i64 ((j + 1 : Nat) : Int)))], []⟩ → _ := fun {s'} hs => ih (j + 1) s' hs ⟨by omega, hn2⟩ (by omega)
      cases q1 with
      | false =>
        repeat (first | refine Run.seq ?_ | refine Run.skip ?_ | refine Run.block ?_)
        refine Run.region ?_
        first | refine O.cmp rfl rfl rfl (by first | exact decide_eq_true (by omega) | exact decide_eq_false (by omega)) rfl ?_ | refine O.cmp rfl rfl rfl rfl rfl ?_
        refine O.nil ?_
        try refine Run.keep [0, 1, 2, 3, 8, 9, 10, 12, 19, 24, 25, 26, 27, 28, 46] rfl rfl ?_
        repeat (first | refine Run.seq ?_ | refine Run.skip ?_)
        first | refine Run.condT rfl rfl ?_ | refine Run.condF rfl rfl ?_ | refine Run.condT rfl (by assumption) ?_ | refine Run.condF rfl (by assumption) ?_
        repeat (first | refine Run.seq ?_ | refine Run.skip ?_ | refine Run.block ?_)
        refine Run.region ?_
        refine O.index hE T42 rfl T46 rfl rfl newest_pv rfl (by omega) hat rfl rfl rfl ?_
        refine O.load hE T46 rfl rfl rfl rfl ?_
        refine O.alloc hE 12 T46 rfl rfl rfl ?_
        refine O.store hE T46 rfl rfl rfl rfl rfl rfl ?_
        refine O.nil ?_
        try refine Run.keep [0, 1, 2, 3, 8, 9, 10, 12, 19, 24, 25, 26, 27, 28, 46] rfl rfl ?_
        repeat (first | refine Run.seq ?_ | refine Run.skip ?_ | refine Run.block ?_)
        refine Run.region ?_
        refine O.field hE L46 rfl rfl rfl rfl ?_
        first | refine O.loadS hE T3 rfl rfl rfl (by rfl) rfl ?_ | refine O.loadE hE T3 rfl rfl (by rfl) rfl ?_ | refine O.load hE T3 rfl rfl rfl rfl ?_
        refine O.move rfl rfl ?_
        refine O.cmp (c' := false) rfl rfl rfl h1' rfl ?_
        refine O.move rfl rfl ?_
        first | (refine O.yes rfl rfl (by first | rfl | assumption) ?_; refine O.field hE L46 rfl rfl rfl rfl ?_) | refine O.no rfl rfl rfl rfl ?_
        first | (refine O.yes rfl rfl (by first | rfl | assumption) ?_; first | refine O.loadS hE T3 rfl rfl rfl (by rfl) rfl ?_ | refine O.loadE hE T3 rfl rfl (by rfl) rfl ?_ | refine O.load hE T3 rfl rfl rfl rfl ?_) | refine O.no rfl rfl rfl rfl ?_
        first | (refine O.yes rfl rfl (by first | rfl | assumption) ?_; refine O.move rfl rfl ?_) | refine O.no rfl rfl rfl rfl ?_
        first | (refine O.yes rfl rfl (by first | rfl | assumption) ?_; refine O.cmp (c' := q2) rfl rfl rfl h2' rfl ?_) | refine O.no rfl rfl rfl rfl ?_
        refine O.pick rfl rfl rfl rfl rfl ?_
        refine O.move rfl rfl ?_
        first | (refine O.yes rfl rfl (by first | rfl | assumption) ?_; refine O.field hE L46 rfl rfl rfl rfl ?_) | refine O.no rfl rfl rfl rfl ?_
        first | (refine O.yes rfl rfl (by first | rfl | assumption) ?_; first | refine O.loadS hE T3 rfl rfl rfl (by rfl) rfl ?_ | refine O.loadE hE T3 rfl rfl (by rfl) rfl ?_ | refine O.load hE T3 rfl rfl rfl rfl ?_) | refine O.no rfl rfl rfl rfl ?_
        first | (refine O.yes rfl rfl (by first | rfl | assumption) ?_; refine O.move rfl rfl ?_) | refine O.no rfl rfl rfl rfl ?_
        first | (refine O.yes rfl rfl (by first | rfl | assumption) ?_; refine O.cmp (c' := q3) rfl rfl rfl h3' rfl ?_) | refine O.no rfl rfl rfl rfl ?_
        refine O.pick rfl rfl rfl rfl rfl ?_
        refine O.nil ?_
        try refine Run.keep [0, 1, 2, 3, 8, 9, 10, 12, 19, 24, 25, 26, 27, 28, 46] rfl rfl ?_
        repeat (first | refine Run.seq ?_ | refine Run.skip ?_)
        first | refine Run.condT rfl rfl ?_ | refine Run.condF rfl rfl ?_ | refine Run.condT rfl (by assumption) ?_ | refine Run.condF rfl (by assumption) ?_
        repeat (first | refine Run.seq ?_ | refine Run.skip ?_ | refine Run.block ?_)
        refine Run.region ?_
        first | refine O.ar rfl rfl rfl (by exact wrap_i64 (by omega) (by omega)) rfl ?_ | refine O.ar rfl rfl rfl rfl rfl ?_
        refine O.move rfl rfl ?_
        refine O.nil ?_
        try refine Run.keep [0, 1, 2, 3, 8, 9, 10, 12, 19, 24, 25, 26, 27, 28, 46] rfl rfl ?_
        exact go (SLe.drop (by repeat (first | exact TmIn.nil | refine TmIn.cons rfl ?_)) (by repeat (first | exact BxIn.nil | refine BxIn.cons rfl ?_)) rfl rfl)
      | true =>
        cases q2 with
        | false =>
          repeat (first | refine Run.seq ?_ | refine Run.skip ?_ | refine Run.block ?_)
          refine Run.region ?_
          first | refine O.cmp rfl rfl rfl (by first | exact decide_eq_true (by omega) | exact decide_eq_false (by omega)) rfl ?_ | refine O.cmp rfl rfl rfl rfl rfl ?_
          refine O.nil ?_
          try refine Run.keep [0, 1, 2, 3, 8, 9, 10, 12, 19, 24, 25, 26, 27, 28, 46] rfl rfl ?_
          repeat (first | refine Run.seq ?_ | refine Run.skip ?_)
          first | refine Run.condT rfl rfl ?_ | refine Run.condF rfl rfl ?_ | refine Run.condT rfl (by assumption) ?_ | refine Run.condF rfl (by assumption) ?_
          repeat (first | refine Run.seq ?_ | refine Run.skip ?_ | refine Run.block ?_)
          refine Run.region ?_
          refine O.index hE T42 rfl T46 rfl rfl newest_pv rfl (by omega) hat rfl rfl rfl ?_
          refine O.load hE T46 rfl rfl rfl rfl ?_
          refine O.alloc hE 12 T46 rfl rfl rfl ?_
          refine O.store hE T46 rfl rfl rfl rfl rfl rfl ?_
          refine O.nil ?_
          try refine Run.keep [0, 1, 2, 3, 8, 9, 10, 12, 19, 24, 25, 26, 27, 28, 46] rfl rfl ?_
          repeat (first | refine Run.seq ?_ | refine Run.skip ?_ | refine Run.block ?_)
          refine Run.region ?_
          refine O.field hE L46 rfl rfl rfl rfl ?_
          first | refine O.loadS hE T3 rfl rfl rfl (by rfl) rfl ?_ | refine O.loadE hE T3 rfl rfl (by rfl) rfl ?_ | refine O.load hE T3 rfl rfl rfl rfl ?_
          refine O.move rfl rfl ?_
          refine O.cmp (c' := true) rfl rfl rfl h1' rfl ?_
          refine O.move rfl rfl ?_
          first | (refine O.yes rfl rfl (by first | rfl | assumption) ?_; refine O.field hE L46 rfl rfl rfl rfl ?_) | refine O.no rfl rfl rfl rfl ?_
          first | (refine O.yes rfl rfl (by first | rfl | assumption) ?_; first | refine O.loadS hE T3 rfl rfl rfl (by rfl) rfl ?_ | refine O.loadE hE T3 rfl rfl (by rfl) rfl ?_ | refine O.load hE T3 rfl rfl rfl rfl ?_) | refine O.no rfl rfl rfl rfl ?_
          first | (refine O.yes rfl rfl (by first | rfl | assumption) ?_; refine O.move rfl rfl ?_) | refine O.no rfl rfl rfl rfl ?_
          first | (refine O.yes rfl rfl (by first | rfl | assumption) ?_; refine O.cmp (c' := false) rfl rfl rfl h2' rfl ?_) | refine O.no rfl rfl rfl rfl ?_
          refine O.pick rfl rfl rfl rfl rfl ?_
          refine O.move rfl rfl ?_
          first | (refine O.yes rfl rfl (by first | rfl | assumption) ?_; refine O.field hE L46 rfl rfl rfl rfl ?_) | refine O.no rfl rfl rfl rfl ?_
          first | (refine O.yes rfl rfl (by first | rfl | assumption) ?_; first | refine O.loadS hE T3 rfl rfl rfl (by rfl) rfl ?_ | refine O.loadE hE T3 rfl rfl (by rfl) rfl ?_ | refine O.load hE T3 rfl rfl rfl rfl ?_) | refine O.no rfl rfl rfl rfl ?_
          first | (refine O.yes rfl rfl (by first | rfl | assumption) ?_; refine O.move rfl rfl ?_) | refine O.no rfl rfl rfl rfl ?_
          first | (refine O.yes rfl rfl (by first | rfl | assumption) ?_; refine O.cmp (c' := q3) rfl rfl rfl h3' rfl ?_) | refine O.no rfl rfl rfl rfl ?_
          refine O.pick rfl rfl rfl rfl rfl ?_
          refine O.nil ?_
          try refine Run.keep [0, 1, 2, 3, 8, 9, 10, 12, 19, 24, 25, 26, 27, 28, 46] rfl rfl ?_
          repeat (first | refine Run.seq ?_ | refine Run.skip ?_)
          first | refine Run.condT rfl rfl ?_ | refine Run.condF rfl rfl ?_ | refine Run.condT rfl (by assumption) ?_ | refine Run.condF rfl (by assumption) ?_
          repeat (first | refine Run.seq ?_ | refine Run.skip ?_ | refine Run.block ?_)
          refine Run.region ?_
          first | refine O.ar rfl rfl rfl (by exact wrap_i64 (by omega) (by omega)) rfl ?_ | refine O.ar rfl rfl rfl rfl rfl ?_
          refine O.move rfl rfl ?_
          refine O.nil ?_
          try refine Run.keep [0, 1, 2, 3, 8, 9, 10, 12, 19, 24, 25, 26, 27, 28, 46] rfl rfl ?_
          exact go (SLe.drop (by repeat (first | exact TmIn.nil | refine TmIn.cons rfl ?_)) (by repeat (first | exact BxIn.nil | refine BxIn.cons rfl ?_)) rfl rfl)
        | true =>
          cases q3 with
          | false =>
            repeat (first | refine Run.seq ?_ | refine Run.skip ?_ | refine Run.block ?_)
            refine Run.region ?_
            first | refine O.cmp rfl rfl rfl (by first | exact decide_eq_true (by omega) | exact decide_eq_false (by omega)) rfl ?_ | refine O.cmp rfl rfl rfl rfl rfl ?_
            refine O.nil ?_
            try refine Run.keep [0, 1, 2, 3, 8, 9, 10, 12, 19, 24, 25, 26, 27, 28, 46] rfl rfl ?_
            repeat (first | refine Run.seq ?_ | refine Run.skip ?_)
            first | refine Run.condT rfl rfl ?_ | refine Run.condF rfl rfl ?_ | refine Run.condT rfl (by assumption) ?_ | refine Run.condF rfl (by assumption) ?_
            repeat (first | refine Run.seq ?_ | refine Run.skip ?_ | refine Run.block ?_)
            refine Run.region ?_
            refine O.index hE T42 rfl T46 rfl rfl newest_pv rfl (by omega) hat rfl rfl rfl ?_
            refine O.load hE T46 rfl rfl rfl rfl ?_
            refine O.alloc hE 12 T46 rfl rfl rfl ?_
            refine O.store hE T46 rfl rfl rfl rfl rfl rfl ?_
            refine O.nil ?_
            try refine Run.keep [0, 1, 2, 3, 8, 9, 10, 12, 19, 24, 25, 26, 27, 28, 46] rfl rfl ?_
            repeat (first | refine Run.seq ?_ | refine Run.skip ?_ | refine Run.block ?_)
            refine Run.region ?_
            refine O.field hE L46 rfl rfl rfl rfl ?_
            first | refine O.loadS hE T3 rfl rfl rfl (by rfl) rfl ?_ | refine O.loadE hE T3 rfl rfl (by rfl) rfl ?_ | refine O.load hE T3 rfl rfl rfl rfl ?_
            refine O.move rfl rfl ?_
            refine O.cmp (c' := true) rfl rfl rfl h1' rfl ?_
            refine O.move rfl rfl ?_
            first | (refine O.yes rfl rfl (by first | rfl | assumption) ?_; refine O.field hE L46 rfl rfl rfl rfl ?_) | refine O.no rfl rfl rfl rfl ?_
            first | (refine O.yes rfl rfl (by first | rfl | assumption) ?_; first | refine O.loadS hE T3 rfl rfl rfl (by rfl) rfl ?_ | refine O.loadE hE T3 rfl rfl (by rfl) rfl ?_ | refine O.load hE T3 rfl rfl rfl rfl ?_) | refine O.no rfl rfl rfl rfl ?_
            first | (refine O.yes rfl rfl (by first | rfl | assumption) ?_; refine O.move rfl rfl ?_) | refine O.no rfl rfl rfl rfl ?_
            first | (refine O.yes rfl rfl (by first | rfl | assumption) ?_; refine O.cmp (c' := true) rfl rfl rfl h2' rfl ?_) | refine O.no rfl rfl rfl rfl ?_
            refine O.pick rfl rfl rfl rfl rfl ?_
            refine O.move rfl rfl ?_
            first | (refine O.yes rfl rfl (by first | rfl | assumption) ?_; refine O.field hE L46 rfl rfl rfl rfl ?_) | refine O.no rfl rfl rfl rfl ?_
            first | (refine O.yes rfl rfl (by first | rfl | assumption) ?_; first | refine O.loadS hE T3 rfl rfl rfl (by rfl) rfl ?_ | refine O.loadE hE T3 rfl rfl (by rfl) rfl ?_ | refine O.load hE T3 rfl rfl rfl rfl ?_) | refine O.no rfl rfl rfl rfl ?_
            first | (refine O.yes rfl rfl (by first | rfl | assumption) ?_; refine O.move rfl rfl ?_) | refine O.no rfl rfl rfl rfl ?_
            first | (refine O.yes rfl rfl (by first | rfl | assumption) ?_; refine O.cmp (c' := false) rfl rfl rfl h3' rfl ?_) | refine O.no rfl rfl rfl rfl ?_
            refine O.pick rfl rfl rfl rfl rfl ?_
            refine O.nil ?_
            try refine Run.keep [0, 1, 2, 3, 8, 9, 10, 12, 19, 24, 25, 26, 27, 28, 46] rfl rfl ?_
            repeat (first | refine Run.seq ?_ | refine Run.skip ?_)
            first | refine Run.condT rfl rfl ?_ | refine Run.condF rfl rfl ?_ | refine Run.condT rfl (by assumption) ?_ | refine Run.condF rfl (by assumption) ?_
            repeat (first | refine Run.seq ?_ | refine Run.skip ?_ | refine Run.block ?_)
            refine Run.region ?_
            first | refine O.ar rfl rfl rfl (by exact wrap_i64 (by omega) (by omega)) rfl ?_ | refine O.ar rfl rfl rfl rfl rfl ?_
            refine O.move rfl rfl ?_
            refine O.nil ?_
            try refine Run.keep [0, 1, 2, 3, 8, 9, 10, 12, 19, 24, 25, 26, 27, 28, 46] rfl rfl ?_
            exact go (SLe.drop (by repeat (first | exact TmIn.nil | refine TmIn.cons rfl ?_)) (by repeat (first | exact BxIn.nil | refine BxIn.cons rfl ?_)) rfl rfl)
          | true => simp at hp
  obtain rfl : j = l.length := by omega
  have hAf : A = false := by rw [← hA]; exact any_none fun i x hx => hno i x (List.getElem?_eq_some_iff.1 hx).1 hx
  subst hAf
  repeat (first | refine Run.seq ?_ | refine Run.skip ?_ | refine Run.block ?_)
  refine Run.region ?_
  first | refine O.cmp rfl rfl rfl (by first | exact decide_eq_true (by omega) | exact decide_eq_false (by omega)) rfl ?_ | refine O.cmp rfl rfl rfl rfl rfl ?_
  refine O.nil ?_
  try refine Run.keep [0, 1, 2, 3, 8, 9, 10, 12, 19, 24, 25, 26, 27, 28, 46] rfl rfl ?_
  repeat (first | refine Run.seq ?_ | refine Run.skip ?_)
  first | refine Run.condT rfl rfl ?_ | refine Run.condF rfl rfl ?_ | refine Run.condT rfl (by assumption) ?_ | refine Run.condF rfl (by assumption) ?_
  refine Run.exit ?_
  repeat (first | refine thenR_exit ?_ | refine roundR_exit ?_ | refine blockR_exit ?_ | refine blockR_pass rfl ?_)
  repeat (first | refine Run.seq ?_ | refine Run.skip ?_ | refine Run.block ?_)
  refine Run.region ?_
  refine O.assign rfl rfl ?_
  refine O.assign rfl rfl ?_
  refine O.nil ?_
  try refine Run.keep [0, 1, 2, 3, 8, 9, 10, 12, 19, 24, 25, 26, 27, 28, 46] rfl rfl ?_
  (repeat (first | refine Run.seq ?_ | refine Run.skip ?_)); (try refine Run.ret ?_); first | exact Ends.flat hE (.inr rfl) rfl rfl (AVle.of_eq rfl) rfl | exact Ends.flat hE (.inl rfl) rfl rfl (AVle.of_eq rfl) rfl
end Go.Proofs.Ytokjeodlcilfpaa.Vm
