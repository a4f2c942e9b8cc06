/- Two values, or rows of values, are the same: sameRow. Conditions: none. -/
import Derived.Test.YtalcpfpjkfpmbaaDoorCodeG
import Derived.ChangeKeysEq
import Derived.Laws.StructEq
namespace Go.Proofs.YtalcpfpjkfpmbaaDoor.Vm
open Go Go.RowKit Go.Lib
set_option linter.unusedVariables false
set_option linter.unusedSimpArgs false
attribute [local irreducible] Ops Dr Run eightU esc turnU oneP encP
section
variable {P : Program} {w : World}
theorem part_plainV {e : TypeId} (he : P.plainKey e = true) {xs : Array Value} {o : Nat} {v : Value} (h : xs[o]? = some v) : (part e xs o).run P w = .ok v w := run_part_plain w he h
theorem eq_intV {e : TypeId} {k : IntKind} (he : P.underlying e = some (.int k)) (d : Nat) (z : Int) : (Op.equalIn (d + 1) e (.int k z) (.int k z)).run P w = .ok true w := by
  unfold Op.equalIn
  rw [Sem.run_bind, run_underlying he w]
  simp only [Result.andThen_ok, if_true]
  simp [Sem.run]
theorem eq_strV {e : TypeId} (he : P.underlying e = some .string) (d : Nat) (z : ByteArray) : (Op.equalIn (d + 1) e (.string z) (.string z)).run P w = .ok true w := by
  rw [run_equalIn_string w d e z z he]
  simp
theorem eqfV {d : Nat} {xs : Array Value} {f : Field} {fs : List Field} {a : Value} (hn : (f.name == "_") = false) (ha : (part f.type xs f.offset).run P w = .ok a w) (he : (Op.equalIn d f.type a a).run P w = .ok true w) (hr : (Op.eqFields d xs xs fs).run P w = .ok true w) : (Op.eqFields d xs xs (f :: fs)).run P w = .ok true w := by
  have hn' : f.name ≠ "_" := by simpa using hn
  rw [Op.eqFields]
  simp only [if_pos hn', Sem.run_bind, ha, he, Result.andThen_ok]
  simpa using hr
end
theorem eqSV {P : Program} {w : World} {d : Nat} {xs ys : Array Value} {r : Bool} {t : TypeId} {fs : Array Field} (hu : P.underlying t = some (.struct fs)) (hp : P.stoodInHeld t = false) (h : (Op.eqFields d xs ys fs.toList).run P w = .ok r w) : (Op.equalIn (d + 1) t (.agg xs) (.agg ys)).run P w = .ok r w := by
  have hf : P.fieldsOf t = fs := by simp [Program.fieldsOf, hu]
  rw [run_equalIn_struct (P := P) w d t xs ys (by rw [hf]; exact hu) hp, hf]
  exact h
section
variable {E : Env} {n : Nat} {tm : List (Nat × AV)} {bx : List (Nat × Box)} {ops : Array Oper} {l : List Oper} {d : Tmp} {ty : TypeId} {pos : String} {after : Array Edge}
theorem OpOk.neAgg {P : Program} {g : Gb} {s : St} {dst : Option Tmp} {t t' : TypeId} {y z : Operand} {gd : Option (Nat × Bool)} {cs : List AV} {us : List Value} (hy : s.ev g y = .agg cs) (hz : s.ev g z = .agg cs) (hv : vals? cs = some us) (hg0 : P.eqGuardType P.depth t = false) (hq : ∀ w, (Op.equalIn 10000 t (.agg us.toArray) (.agg us.toArray)).run P w = .ok true w)
    (hd : ∀ t, dst = some t → t < s.n) : OpOk P g ⟨dst, .binOp .neq t y z t', ty, pos, after, gd⟩ s (s.putO dst (.pv (.bool false))) := by
  refine OpOk.val (o := ⟨dst, .binOp .neq t y z t', ty, pos, after, gd⟩) hd (fun cx a w G hP hg hs => ⟨.bool false, ?_, .pv _ _ (.bool _)⟩)
  have h1 := hs.ev hg y
  have h2 := hs.ev hg z
  rw [hy] at h1
  rw [hz] at h2
  have hf : (AV.agg cs).flat? = some (.agg us.toArray) := by simp [AV.flat?, hv]
  have e1 : a.eval y = .agg us.toArray := h1.of_flat hf
  have e2 : a.eval z = .agg us.toArray := h2.of_flat hf
  subst hP
  simp only [execOp, e1, e2, Sem.run_bind, run_eqGuard_agg (P := cx.P) w .neq t y z us.toArray us.toArray hg0, Result.andThen_ok, run_neq_struct, hq w, Sem.run_pure]
  rfl
theorem D.neAgg {Θ : List Rec → St → Prop} {t t' : TypeId} {y z : Operand} {cs : List AV} {us : List Value} (hy : evO E tm y = some (.agg cs)) (hz : evO E tm z = some (.agg cs)) (hv : vals? cs = some us) (hg0 : E.P.eqGuardType E.P.depth t = false) (hq : ∀ w, (Op.equalIn 10000 t (.agg us.toArray) (.agg us.toArray)).run E.P w = .ok true w) (hd : Nat.blt d n = true)
    (h : Dr E.P E.g ops l ⟨n, (d, .pv (.bool false)) :: tm, bx⟩ (fun rs => Θ (⟨rtOf y (.agg cs) ++ rtOf z (.agg cs), [], [], some d, .pv (.bool false), []⟩ :: rs))) : Dr E.P E.g ops (⟨some d, .binOp .neq t y z t', ty, pos, after, none⟩ :: l) ⟨n, tm, bx⟩ Θ :=
  D.of (rt := rtOf y (.agg cs) ++ rtOf z (.agg cs)) (rb := []) (fun w hw => by
      rcases List.mem_append.1 hw with hw | hw
      · exact rt_now hy w hw
      · exact rt_now hz w hw) none_met hd (fun s hs _ hd' => OpOk.neAgg (s := s) (evO_ok (n := s.n) (bx := s.bx) (rt_ev hy (fun p hp => hs p (mem_l hp)))) (evO_ok (n := s.n) (bx := s.bx) (rt_ev hz (fun p hp => hs p (mem_r hp)))) hv hg0 hq (fun t ht => by obtain rfl := Option.some.inj ht; exact hd')) h
end
theorem eq_val (k n b : Int) (s : ByteArray) (w : World) : (Op.equalIn 10000 60 (.agg #[.int .i64 k, .int .i64 n, .int .u64 b, .string s]) (.agg #[.int .i64 k, .int .i64 n, .int .u64 b, .string s])).run Tryd.prog w = .ok true w := by
  refine eqSV (d := 9999) Tryd.underlying60 (by kernel_rfl) ?_
  refine eqfV rfl (part_plainV (by kernel_rfl) rfl) (eq_intV Tryd.underlying3 9998 k) ?_
  refine eqfV rfl (part_plainV (by kernel_rfl) rfl) (eq_intV Tryd.underlying3 9998 n) ?_
  refine eqfV rfl (part_plainV (by kernel_rfl) rfl) (eq_intV Tryd.underlying58 9998 b) ?_
  refine eqfV rfl (part_plainV (by kernel_rfl) rfl) (eq_strV Tryd.underlying9 9998 s) ?_
  rfl
variable {g : Nat → Option (List PV)}
theorem fnSameRow {vs : List Vl} (hl : vs.length ≤ 1000) : FnC (En Tryd.prog g) 31 [.pv (.lst 4 (vs.map vlE)), .pv (.lst 4 (vs.map vlE))] (.pv (.bool true)) [] := by
  have hE := EnOk g
  have hlm : (vs.map vlE).length = vs.length := by simp
  refine FnC.of Tryd.func31 rfl rfl rfl rfl ?_
  repeat (first | refine Run.seq ?_ | refine Run.skip ?_ | refine Run.block ?_)
  refine Run.region ?_
  refine O.assign rfl rfl ?_
  refine O.nil ?_
  try refine Run.keep [0, 1, 4, 5, 10, 12, 13, 14, 24] rfl rfl ?_
  repeat (first | refine Run.seq ?_ | refine Run.skip ?_ | refine Run.block ?_)
  refine Run.region ?_
  refine O.move rfl rfl ?_
  first | refine O.lenN hE T37 rfl rfl rfl (by first | exact newest_pv | exact newest_gl rfl rfl | trivial) lenC rfl ?_ | refine O.lenLst hE T37 rfl rfl rfl (by first | exact newest_pv | exact newest_gl rfl rfl | trivial) rfl ?_
  refine O.move rfl rfl ?_
  first | refine O.lenN hE T37 rfl rfl rfl (by first | exact newest_pv | exact newest_gl rfl rfl | trivial) lenC rfl ?_ | refine O.lenLst hE T37 rfl rfl rfl (by first | exact newest_pv | exact newest_gl rfl rfl | trivial) rfl ?_
  first | refine O.cmp rfl rfl rfl (by first | exact decide_eq_true (by omega) | exact decide_eq_false (by omega)) rfl ?_ | refine O.cmp rfl rfl rfl rfl rfl ?_
  refine O.nil ?_
  try refine Run.keep [0, 1, 4, 5, 10, 12, 13, 14, 24] rfl rfl ?_
  repeat (first | refine Run.seq ?_ | refine Run.skip ?_)
  first | refine Run.condT rfl rfl ?_ | refine Run.condF rfl rfl ?_ | refine Run.condT rfl (by assumption) ?_ | refine Run.condF rfl (by assumption) ?_
  repeat (first | refine Run.seq ?_ | refine Run.skip ?_ | refine Run.block ?_)
  refine Run.region ?_
  refine O.move rfl rfl ?_
  first | refine O.lenN hE T37 rfl rfl rfl (by first | exact newest_pv | exact newest_gl rfl rfl | trivial) lenC rfl ?_ | refine O.lenLst hE T37 rfl rfl rfl (by first | exact newest_pv | exact newest_gl rfl rfl | trivial) rfl ?_
  refine O.move rfl rfl ?_
  refine O.nil ?_
  try refine Run.keep [0, 1, 4, 5, 10, 12, 13, 14, 24] rfl rfl ?_
  repeat (first | refine Run.seq ?_ | refine Run.skip ?_)
  refine Run.block ?_
  refine Run.loopInv (ι := Nat) (fun j => j ≤ vs.length) (fun j => ⟨26, [(0, .pv (.lst 4 (vs.map vlE))), (1, .pv (.lst 4 (vs.map vlE))), (12, .pv (.int .i64 vs.length)), (13, .pv (.int .i64 j))], []⟩) (fun j => vs.length - j) 0 (by omega) ?_ ?_
  ·
    refine SLe.eqv (by repeat (first | exact TmIn.nil | refine TmIn.cons rfl ?_)) (by repeat (first | exact BxIn.nil | refine BxIn.cons rfl ?_)) rfl
  rintro j hj ih
  by_cases hlt : j < vs.length
  ·
    obtain ⟨v, hv⟩ : ∃ v, vs[j]? = some v := ⟨_, List.getElem?_eq_getElem hlt⟩
    have hat : (vs.map vlE)[(j : Int).toNat]? = some (vlE v) := by rw [Int.toNat_natCast, List.getElem?_map, hv]; rfl
    obtain ⟨k, n, bt, t⟩ := v
    have hq := eq_val k n bt t
    repeat (first | refine Run.seq ?_ | refine Run.skip ?_ | refine Run.block ?_)
    refine Run.region ?_
    first | refine O.cmp rfl rfl rfl (by first | exact decide_eq_true (by omega) | exact decide_eq_false (by omega)) rfl ?_ | refine O.cmp rfl rfl rfl rfl rfl ?_
    refine O.nil ?_
    try refine Run.keep [0, 1, 4, 5, 10, 12, 13, 14, 24] rfl rfl ?_
    repeat (first | refine Run.seq ?_ | refine Run.skip ?_)
    first | refine Run.condT rfl rfl ?_ | refine Run.condF rfl rfl ?_ | refine Run.condT rfl (by assumption) ?_ | refine Run.condF rfl (by assumption) ?_
    repeat (first | refine Run.seq ?_ | refine Run.skip ?_ | refine Run.block ?_)
    refine Run.region ?_
    refine O.move rfl rfl ?_
    refine O.assign rfl rfl ?_
    refine O.nil ?_
    try refine Run.keep [0, 1, 4, 5, 10, 12, 13, 14, 24] rfl rfl ?_
    repeat (first | refine Run.seq ?_ | refine Run.skip ?_ | refine Run.block ?_)
    refine Run.draw mixed rfl ?_
    refine D.move rfl rfl ?_
    refine D.move rfl rfl ?_
    refine D.index hE T37 rfl T60 rfl rfl newest_pv rfl (by omega) hat rfl rfl rfl ?_
    refine D.load hE T60 rfl rfl rfl rfl ?_
    refine D.move rfl rfl ?_
    refine D.move rfl rfl ?_
    refine D.index hE T37 rfl T60 rfl rfl newest_pv rfl (by omega) hat rfl rfl rfl ?_
    refine D.load hE T60 rfl rfl rfl rfl ?_
    refine D.neAgg rfl rfl rfl (by kernel_rfl) hq rfl ?_
    refine Dr.nil ?_
    refine ⟨rfl, ?_⟩
    try refine Run.keep [0, 1, 4, 5, 10, 12, 13, 14, 24] rfl rfl ?_
    repeat (first | refine Run.seq ?_ | refine Run.skip ?_)
    first | refine Run.condT rfl rfl ?_ | refine Run.condF rfl rfl ?_ | refine Run.condT rfl (by assumption) ?_ | refine Run.condF rfl (by assumption) ?_
    repeat (first | refine Run.seq ?_ | refine Run.skip ?_ | refine Run.block ?_)
    refine Run.region ?_
    first | refine O.ar rfl rfl rfl (by exact wrap_i64 (by omega) (by omega)) rfl ?_ | refine O.ar rfl rfl rfl rfl rfl ?_
    refine O.move rfl rfl ?_
    refine O.nil ?_
    try refine Run.keep [0, 1, 4, 5, 10, 12, 13, 14, 24] rfl rfl ?_
    exact ih (j + 1) _ (by refine SLe.eqv (by repeat (first | exact TmIn.nil | refine TmIn.cons rfl ?_)) (by repeat (first | exact BxIn.nil | refine BxIn.cons rfl ?_)) rfl) (by omega) (by omega)
  repeat (first | refine Run.seq ?_ | refine Run.skip ?_ | refine Run.block ?_)
  refine Run.region ?_
  first | refine O.cmp rfl rfl rfl (by first | exact decide_eq_true (by omega) | exact decide_eq_false (by omega)) rfl ?_ | refine O.cmp rfl rfl rfl rfl rfl ?_
  refine O.nil ?_
  try refine Run.keep [0, 1, 4, 5, 10, 12, 13, 14, 24] rfl rfl ?_
  repeat (first | refine Run.seq ?_ | refine Run.skip ?_)
  first | refine Run.condT rfl rfl ?_ | refine Run.condF rfl rfl ?_ | refine Run.condT rfl (by assumption) ?_ | refine Run.condF rfl (by assumption) ?_
  refine Run.exit ?_
  repeat (first | refine thenR_exit ?_ | refine roundR_exit ?_ | refine blockR_exit ?_ | refine blockR_pass rfl ?_)
  repeat (first | refine Run.seq ?_ | refine Run.skip ?_ | refine Run.block ?_)
  refine Run.region ?_
  refine O.assign rfl rfl ?_
  refine O.nil ?_
  try refine Run.keep [0, 1, 4, 5, 10, 12, 13, 14, 24] rfl rfl ?_
  (repeat (first | refine Run.seq ?_ | refine Run.skip ?_)); (try refine Run.ret ?_); first | exact Ends.flat hE (.inr rfl) rfl rfl (AVle.of_eq rfl) rfl | exact Ends.flat hE (.inl rfl) rfl rfl (AVle.of_eq rfl) rfl
end Go.Proofs.YtalcpfpjkfpmbaaDoor.Vm
