/- Two values that are the same are not unlike. Conditions: none. -/
import Derived.Test.YtlcmnhocicehmaaDoorCodeP
import Derived.Test.YtlcmnhocicehmaaDoorPick
import Derived.ChangeKeysEq
import Derived.Laws.StructEq
namespace Go.Proofs.YtlcmnhocicehmaaDoor.Vm
open Go Go.RowKit Go.Lib
set_option linter.unusedVariables false
set_option linter.unusedSimpArgs false
attribute [local irreducible] Ops Dr Run
section
variable {P : Program} {w : World}
theorem part_plainV2 {e : TypeId} (he : P.plainKey e = true) {xs : Array Value} {o : Nat} {v : Value} (h : xs[o]? = some v) : (part e xs o).run P w = .ok v w := run_part_plain w he h
theorem eq_intV2 {e : TypeId} {k : IntKind} (he : P.underlying e = some (.int k)) (d : Nat) (z : Int) : (Op.equalIn (d + 1) e (.int k z) (.int k z)).run P w = .ok true w := by
  unfold Op.equalIn
  rw [Sem.run_bind, run_underlying he w]
  simp only [Result.andThen_ok, if_true]
  simp [Sem.run]
theorem eq_strV2 {e : TypeId} (he : P.underlying e = some .string) (d : Nat) (z : ByteArray) : (Op.equalIn (d + 1) e (.string z) (.string z)).run P w = .ok true w := by
  rw [run_equalIn_string w d e z z he]
  simp
theorem eqfV2 {d : Nat} {xs : Array Value} {f : Field} {fs : List Field} {a : Value} (hn : (f.name == "_") = false) (ha : (part f.type xs f.offset).run P w = .ok a w) (he : (Op.equalIn d f.type a a).run P w = .ok true w) (hr : (Op.eqFields d xs xs fs).run P w = .ok true w) : (Op.eqFields d xs xs (f :: fs)).run P w = .ok true w := by
  have hn' : f.name ≠ "_" := by simpa using hn
  rw [Op.eqFields]
  simp only [if_pos hn', Sem.run_bind, ha, he, Result.andThen_ok]
  simpa using hr
end
theorem eqSV2 {P : Program} {w : World} {d : Nat} {xs ys : Array Value} {r : Bool} {t : TypeId} {fs : Array Field} (hu : P.underlying t = some (.struct fs)) (hp : P.stoodInHeld t = false) (h : (Op.eqFields d xs ys fs.toList).run P w = .ok r w) : (Op.equalIn (d + 1) t (.agg xs) (.agg ys)).run P w = .ok r w := by
  have hf : P.fieldsOf t = fs := by simp [Program.fieldsOf, hu]
  rw [run_equalIn_struct (P := P) w d t xs ys (by rw [hf]; exact hu) hp, hf]
  exact h
section
variable {E : Env} {n : Nat} {tm : List (Nat × AV)} {bx : List (Nat × Box)} {ops : Array Oper} {l : List Oper} {d : Tmp} {ty : TypeId} {pos : String} {after : Array Edge}
theorem OpOk.neAggV {P : Program} {g : Gb} {s : St} {dst : Option Tmp} {t t' : TypeId} {y z : Operand} {gd : Option (Nat × Bool)} {cs : List AV} {us : List Value} (hy : s.ev g y = .agg cs) (hz : s.ev g z = .agg cs) (hv : vals? cs = some us) (hg0 : P.eqGuardType P.depth t = false) (hq : ∀ w, (Op.equalIn 10000 t (.agg us.toArray) (.agg us.toArray)).run P w = .ok true w)
    (hd : ∀ t, dst = some t → t < s.n) : OpOk P g ⟨dst, .binOp .neq t y z t', ty, pos, after, gd⟩ s (s.putO dst (.pv (.bool false))) := by
  refine OpOk.val (o := ⟨dst, .binOp .neq t y z t', ty, pos, after, gd⟩) hd (fun cx a w G hP hg hs => ⟨.bool false, ?_, .pv _ _ (.bool _)⟩)
  have h1 := hs.ev hg y
  have h2 := hs.ev hg z
  rw [hy] at h1
  rw [hz] at h2
  have hf : (AV.agg cs).flat? = some (.agg us.toArray) := by simp [AV.flat?, hv]
  have e1 : a.eval y = .agg us.toArray := h1.of_flat hf
  have e2 : a.eval z = .agg us.toArray := h2.of_flat hf
  subst hP
  simp only [execOp, e1, e2, Sem.run_bind, run_eqGuard_agg (P := cx.P) w .neq t y z us.toArray us.toArray hg0, Result.andThen_ok, run_neq_struct, hq w, Sem.run_pure]
  rfl
theorem D.neAggV {Θ : List Rec → St → Prop} {t t' : TypeId} {y z : Operand} {cs : List AV} {us : List Value} (hy : evO E tm y = some (.agg cs)) (hz : evO E tm z = some (.agg cs)) (hv : vals? cs = some us) (hg0 : E.P.eqGuardType E.P.depth t = false) (hq : ∀ w, (Op.equalIn 10000 t (.agg us.toArray) (.agg us.toArray)).run E.P w = .ok true w) (hd : Nat.blt d n = true)
    (h : Dr E.P E.g ops l ⟨n, (d, .pv (.bool false)) :: tm, bx⟩ (fun rs => Θ (⟨rtOf y (.agg cs) ++ rtOf z (.agg cs), [], [], some d, .pv (.bool false), []⟩ :: rs))) : Dr E.P E.g ops (⟨some d, .binOp .neq t y z t', ty, pos, after, none⟩ :: l) ⟨n, tm, bx⟩ Θ :=
  D.of (rt := rtOf y (.agg cs) ++ rtOf z (.agg cs)) (rb := []) (fun w hw => by
      rcases List.mem_append.1 hw with hw | hw
      · exact rt_now hy w hw
      · exact rt_now hz w hw) none_met hd (fun s hs _ hd' => OpOk.neAggV (s := s) (evO_ok (n := s.n) (bx := s.bx) (rt_ev hy (fun p hp => hs p (mem_l hp)))) (evO_ok (n := s.n) (bx := s.bx) (rt_ev hz (fun p hp => hs p (mem_r hp)))) hv hg0 hq (fun t ht => by obtain rfl := Option.some.inj ht; exact hd')) h
/-- Two truths: are they unlike? -/
theorem O.neB {Θ : St → Prop} {p p' c : Bool} {t t' : TypeId} {y z : Operand} (hy : evO E tm y = some (.pv (.bool p))) (hz : evO E tm z = some (.pv (.bool p'))) {i : TI} (hE : E.Ok) (ht : E.T t = some i) (hk : i.desc = .bool) (hcc : (!(p == p')) = c) (hd : Nat.blt d n = true) (h : Ops E.P E.g ops l ⟨n, (d, .pv (.bool c)) :: tm, bx⟩ Θ) :
    Ops E.P E.g ops (⟨some d, .binOp .neq t y z t', ty, pos, after, none⟩ :: l) ⟨n, tm, bx⟩ Θ := by
  refine Ops.op rfl (OpOk.val (o := ⟨some d, .binOp .neq t y z t', ty, pos, after, none⟩) (dlt hd) (fun cx a w G hP hg hs => ⟨.bool c, ?_, .pv _ _ (.bool _)⟩)) h
  have h1 := hs.ev hg y
  have h2 := hs.ev hg z
  rw [evO_ok hy] at h1
  rw [evO_ok hz] at h2
  have e1 : a.eval y = .bool p := h1.of_val rfl
  have e2 : a.eval z = .bool p' := h2.of_val rfl
  obtain ⟨ds, u1, u2⟩ := tiOf_und (hE.t _ _ ht)
  rw [hk] at u2
  have u3 : ds = .bool := by cases ds <;> simp [kOf] at u2 ⊢
  subst u3
  subst hcc
  have hq : (Op.equalIn Op.maxDepth t (.bool p) (.bool p')).run E.P w = .ok (p == p') w := by
    rw [show Op.maxDepth = 9999 + 1 from rfl]
    unfold Op.equalIn
    rw [Sem.run_bind, run_underlying u1 w]
    rfl
  simp [execOp, e1, e2, eqGuard, Go.binOp, Op.equal, hq, Result.andThen_ok]
theorem D.lenK {Θ : List Rec → St → Prop} {t e : TypeId} {y : Operand} {i : TI} {sz : Nat} {xs : List PV} {m : Int} (hE : E.Ok) (ht : E.T t = some i) (hk : i.desc = .slc e) (hy : evO E tm y = some (.pv (.lst sz xs))) (hm : (xs.length : Int) = m) (hd : Nat.blt d n = true)
    (h : Dr E.P E.g ops l ⟨n, (d, .pv (.int .i64 m)) :: tm, bx⟩ (fun rs => Θ (⟨rtOf y (.pv (.lst sz xs)), rbOf bx (.pv (.lst sz xs)), [], some d, .pv (.int .i64 m), []⟩ :: rs))) : Dr E.P E.g ops (⟨some d, .call { callee := .builtin .len, args := #[y], argTypes := #[t] }, ty, pos, after, none⟩ :: l) ⟨n, tm, bx⟩ Θ := by
  subst hm
  exact D.lenLst hE ht hk hy rfl trivial hd h
theorem O.strEqK {Θ : St → Prop} {t t' : TypeId} {y z : Operand} {s s' : ByteArray} {c : Bool} (hy : evO E tm y = some (.pv (.str s))) (hz : evO E tm z = some (.pv (.str s'))) (hc : (s.toList == s'.toList) = c) (hd : Nat.blt d n = true) (h : Ops E.P E.g ops l ⟨n, (d, .pv (.bool c)) :: tm, bx⟩ Θ) :
    Ops E.P E.g ops (⟨some d, .binOp .eql t y z t', ty, pos, after, none⟩ :: l) ⟨n, tm, bx⟩ Θ := by
  subst hc
  exact O.bin (v := .bool (s.toList == s'.toList)) hy hz rfl rfl rfl rfl hd h
theorem O.neAggV {Θ : St → Prop} {t t' : TypeId} {y z : Operand} {cs : List AV} {us : List Value} (hy : evO E tm y = some (.agg cs)) (hz : evO E tm z = some (.agg cs)) (hv : vals? cs = some us) (hg0 : E.P.eqGuardType E.P.depth t = false) (hq : ∀ w, (Op.equalIn 10000 t (.agg us.toArray) (.agg us.toArray)).run E.P w = .ok true w) (hd : Nat.blt d n = true)
    (h : Ops E.P E.g ops l ⟨n, (d, .pv (.bool false)) :: tm, bx⟩ Θ) : Ops E.P E.g ops (⟨some d, .binOp .neq t y z t', ty, pos, after, none⟩ :: l) ⟨n, tm, bx⟩ Θ :=
  Ops.op rfl (OpOk.neAggV (s := ⟨n, tm, bx⟩) (evO_ok hy) (evO_ok hz) hv hg0 hq (dlt hd)) h
end
theorem eq_val2 (k n b : Int) (s : ByteArray) (w : World) : (Op.equalIn 10000 25 (.agg #[.int .i64 k, .int .i64 n, .int .u64 b, .string s]) (.agg #[.int .i64 k, .int .i64 n, .int .u64 b, .string s])).run Tryd.prog w = .ok true w := by
  refine eqSV2 (d := 9999) Tryd.underlying25 (by kernel_rfl) ?_
  refine eqfV2 rfl (part_plainV2 (by kernel_rfl) rfl) (eq_intV2 Tryd.underlying3 9998 k) ?_
  refine eqfV2 rfl (part_plainV2 (by kernel_rfl) rfl) (eq_intV2 Tryd.underlying3 9998 n) ?_
  refine eqfV2 rfl (part_plainV2 (by kernel_rfl) rfl) (eq_intV2 Tryd.underlying23 9998 b) ?_
  refine eqfV2 rfl (part_plainV2 (by kernel_rfl) rfl) (eq_strV2 Tryd.underlying9 9998 s) ?_
  rfl
end Go.Proofs.YtlcmnhocicehmaaDoor.Vm
