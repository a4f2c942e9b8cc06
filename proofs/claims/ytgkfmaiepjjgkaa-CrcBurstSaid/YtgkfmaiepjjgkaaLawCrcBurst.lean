-- WRITTEN BY mkprint.py, a program of this session (out of the translation). Lean checks it.
import Derived.Test.YtgkfmaiepjjgkaaRows
import Derived.Test.YtgkfmaiepjjgkaaQCrcBurstx1
import Derived.Test.YtgkfmaiepjjgkaaQCrcBurstx0
import Derived.Test.YtgkfmaiepjjgkaaPureCrcBurst
import Derived.Test.YtgkfmaiepjjgkaaOpens
import Derived.WalkKit
import Derived.ProofKit
import Derived.OpenShut
import Derived.ShutString
import Derived.ChangeOld
import Derived.Below
import Derived.SizedLaws
import Derived.Lib.SmallJoins
namespace Go.Proofs.Ytgkfmaiepjjgkaa.crcBurst
open Go.ChangeShapes Go.WideShapes Go.ChangeAt Go.RowKit Go.Joins Go.Proofs.Ytgkfmaiepjjgkaa Go.Proofs.Ytgkfmaiepjjgkaa.QCrcBurst
open Go.ChangeMaps (open_string shut_string)
set_option linter.unusedVariables false
theorem own : ownKnob Try.prog.godebug = none := by kernel_rfl
theorem laidOut : laidOutB Try.prog = true := by kernel_rfl
set_option maxRecDepth 100000 in
theorem lifted (os : Os) (started : os.Started) (H : Type) (enc : TypeId × Value → H) :
    ReturnsInHanded {} Try.checked os 4 .any (Rows.crcBurstSpec.pre6 enc Try.prog Try.f4 Rows.crcBurstRow.domain false) (Rows.crcBurstSpec.post enc Try.prog Try.f4 false true false false) := by
  refine returnsInHanded_of_change_sized (C := Try.checked) own started (by kernel_rfl) Try.func4
    (ChangeSpec.witness6 (enc := enc) (C := Try.checked) false ⟨#[], #[.slice none 0 0, .int .i64 0, .agg #[.int .u8 0, .int .u8 0, .int .u8 0, .int .u8 0]], []⟩ 8 (by kernel_rfl) (by kernel_rfl) (by kernel_rfl) (by kernel_rfl)) ?_
  intro W base args ds gs before hval0 hW hcnd hsz0 _
  have hsz : (DataW.weightsEach Try.prog (Try.f4.params.toList ++ Rows.crcBurstSpec.plain.varTypes Try.prog) (ds ++ gs)).all (· ≤ reachBytes) = true := hsz0
  have hval : ∀ (j : Nat) t v, Try.f4.params[j]? = some t → args[j]? = some v → Value.okWide Try.prog W .any base t v := hval0
  have hW' := hW
  obtain ⟨p, q, hA0, hV, rfl, hfz, hnd⟩ := hW
  have hA : DataW.TrodAll enc Try.prog W 0 (fun _ => true) true Try.f4.params.toList args.toList ds p := hA0
  rw [Try.params4] at hA hval hsz
  obtain ⟨v0, vs0, d0, ds0, p0, q0, hargs, rfl, rfl, h0, r0⟩ := trodAll_cons hA
  obtain ⟨v1, vs1, d1, ds1, p1, q1, rfl, rfl, rfl, h1, r1⟩ := trodAll_cons r0
  obtain ⟨v2, vs2, d2, ds2, p2, q2, rfl, rfl, rfl, h2, r2⟩ := trodAll_cons r1
  obtain ⟨rfl, rfl, rfl⟩ := trodAll_nil r2
  obtain rfl : args = #[v0, v1, v2] := by cases args; simp_all
  obtain ⟨rfl, rfl⟩ := trodVars_none hV
  obtain ⟨b0, len0, cap0, rfl⟩ := okWide_slice Try.underlying22 (hval 0 22 v0 rfl rfl)
  have k0 := h0
  have lt0 : ∀ x ∈ p0, x.block < W.heap.size := by obtain ⟨m, hm⟩ := k0; exact DataW.trod_lt m _ _ _ hm
  obtain ⟨A0, c0, l0, e0, hr0, hc0, hm0, hs0, hq0⟩ := Opens.open_arg hsz (j := 0) rfl rfl (B := 1) (by kernel_rfl) Try.underlying22 (by kernel_rfl) (Opens.opens_int Try.underlying5) h0 rfl
  injection e0 with e0a e0b e0c
  subst e0a e0b e0c
  obtain ⟨a1, rfl, rfl, rfl, w1⟩ := open_int Try.underlying3 (hval 1 3 v1 rfl rfl) h1
  have k2 := h2
  have lt2 : ∀ x ∈ p2, x.block < W.heap.size := by obtain ⟨m, hm⟩ := k2; exact DataW.trod_lt m _ _ _ hm
  obtain ⟨c2_0, c2_1, c2_2, c2_3, y2_0, y2_1, y2_2, y2_3, ny2, rfl, rfl, rfl, g2_0, g2_1, g2_2, g2_3⟩ := Opens.open_arr4 Try.underlying26 (by kernel_rfl) (by kernel_rfl) (hval 2 26 v2 rfl rfl) h2
  obtain ⟨a2_0, o2_0, w2_0⟩ := (Opens.opens_int Try.underlying5) _ _ _ g2_0
  obtain rfl : c2_0 = Value.int .u8 a2_0 := by injection o2_0
  obtain ⟨a2_1, o2_1, w2_1⟩ := (Opens.opens_int Try.underlying5) _ _ _ g2_1
  obtain rfl : c2_1 = Value.int .u8 a2_1 := by injection o2_1
  obtain ⟨a2_2, o2_2, w2_2⟩ := (Opens.opens_int Try.underlying5) _ _ _ g2_2
  obtain rfl : c2_2 = Value.int .u8 a2_2 := by injection o2_2
  obtain ⟨a2_3, o2_3, w2_3⟩ := (Opens.opens_int Try.underlying5) _ _ _ g2_3
  obtain rfl : c2_3 = Value.int .u8 a2_3 := by injection o2_3
  clear hA0 hval0 hsz0 hsz
  obtain ⟨k, h⟩ := Pure.CrcBurst l0 a1 a2_0 a2_1 a2_2 a2_3 hm0 hs0 hq0 w1 w2_0 w2_1 w2_2 w2_3
  refine (QCrcBurst.chirographkeep_CrcBurst.calls k _ _ l0 a1 a2_0 a2_1 a2_2 a2_3 true W hr0 hc0 h rfl).mono fun e W' ⟨he, bel0⟩ => ?_
  have bel : Below W.heap.size W W' := bel0
  subst he
  exact ⟨_, rfl, _, _, _, [], _, [], hW', trodAll_mk1 (shut_bool Try.underlying4 _), (trodAll_cons_mk (Below.trod laidOut (by kernel_rfl) (of_decide_eq_true (by kernel_rfl)) k0 bel lt0) (trodAll_cons_mk (shut_int Try.underlying3 w1) (trodAll_cons_mk (Below.trod laidOut (by kernel_rfl) (of_decide_eq_true (by kernel_rfl)) k2 bel lt2) trodAll_mk0))), rfl, bel.frame _, fun h => by cases h⟩
theorem over : Rows.crcBurstRow.holds Try.pinned (OpenSpec.ofChange Rows.crcBurstSpec) :=
  OpenClaim.holds_of_wide 4 Try.f4 rfl rfl rfl rfl rfl rfl rfl ⟨rfl, rfl, rfl, rfl, rfl⟩ rfl rfl rfl rfl rfl (by kernel_rfl) Try.func4 (by kernel_rfl)
    (of_decide_eq_true (by kernel_rfl)) (by unfold Func.isWrapper; first | (rw [if_pos (by decide +kernel)]; kernel_rfl) | (rw [if_neg (by decide +kernel)]; exact ⟨rfl, rfl⟩))
    (fun os started H enc _ => lifted os started H enc)
theorem proved : Rows.CrcBurstSaid := over
#print axioms proved
end Go.Proofs.Ytgkfmaiepjjgkaa.crcBurst
namespace Go.Proofs.Ytgkfmaiepjjgkaa
/-- The row, under a short name, for the claim. -/
theorem crcBurst_holds : Rows.CrcBurstSaid := crcBurst.proved
end Go.Proofs.Ytgkfmaiepjjgkaa
