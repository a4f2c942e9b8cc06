-- WRITTEN BY mkprint.py, a program of this session (out of the translation). Lean checks it.
import Derived.Test.YtgkfmaiepjjgkaaRows
import Derived.Test.YtgkfmaiepjjgkaaQFrameApartx2
import Derived.Test.YtgkfmaiepjjgkaaQFrameApartx0
import Derived.Test.YtgkfmaiepjjgkaaPureFrameApart
import Derived.Test.YtgkfmaiepjjgkaaOpens
import Derived.WalkKit
import Derived.ProofKit
import Derived.OpenShut
import Derived.ShutString
import Derived.ChangeOld
import Derived.Below
import Derived.SizedLaws
import Derived.Lib.SmallJoins
namespace Go.Proofs.Ytgkfmaiepjjgkaa.frameApart
open Go.ChangeShapes Go.WideShapes Go.ChangeAt Go.RowKit Go.Joins Go.Proofs.Ytgkfmaiepjjgkaa Go.Proofs.Ytgkfmaiepjjgkaa.QFrameApart
open Go.ChangeMaps (open_string shut_string)
set_option linter.unusedVariables false
theorem own : ownKnob Try.prog.godebug = none := by kernel_rfl
theorem laidOut : laidOutB Try.prog = true := by kernel_rfl
set_option maxRecDepth 100000 in
theorem lifted (os : Os) (started : os.Started) (H : Type) (enc : TypeId × Value → H) :
    ReturnsInHanded {} Try.checked os 8 .any (Rows.frameApartSpec.pre6 enc Try.prog Try.f8 Rows.frameApartRow.domain false) (Rows.frameApartSpec.post enc Try.prog Try.f8 false true false false) := by
  refine returnsInHanded_of_change_sized (C := Try.checked) own started (by kernel_rfl) Try.func8
    (ChangeSpec.witness6 (enc := enc) (C := Try.checked) false ⟨#[], #[.int .i64 0, .slice none 0 0, .int .i64 0, .slice none 0 0], []⟩ 8 (by kernel_rfl) (by kernel_rfl) (by kernel_rfl) (by kernel_rfl)) ?_
  intro W base args ds gs before hval0 hW hcnd hsz0 _
  have hsz : (DataW.weightsEach Try.prog (Try.f8.params.toList ++ Rows.frameApartSpec.plain.varTypes Try.prog) (ds ++ gs)).all (· ≤ reachBytes) = true := hsz0
  have hval : ∀ (j : Nat) t v, Try.f8.params[j]? = some t → args[j]? = some v → Value.okWide Try.prog W .any base t v := hval0
  have hW' := hW
  obtain ⟨p, q, hA0, hV, rfl, hfz, hnd⟩ := hW
  have hA : DataW.TrodAll enc Try.prog W 0 (fun _ => true) true Try.f8.params.toList args.toList ds p := hA0
  rw [Try.params8] at hA hval hsz
  obtain ⟨v0, vs0, d0, ds0, p0, q0, hargs, rfl, rfl, h0, r0⟩ := trodAll_cons hA
  obtain ⟨v1, vs1, d1, ds1, p1, q1, rfl, rfl, rfl, h1, r1⟩ := trodAll_cons r0
  obtain ⟨v2, vs2, d2, ds2, p2, q2, rfl, rfl, rfl, h2, r2⟩ := trodAll_cons r1
  obtain ⟨v3, vs3, d3, ds3, p3, q3, rfl, rfl, rfl, h3, r3⟩ := trodAll_cons r2
  obtain ⟨rfl, rfl, rfl⟩ := trodAll_nil r3
  obtain rfl : args = #[v0, v1, v2, v3] := by cases args; simp_all
  obtain ⟨rfl, rfl⟩ := trodVars_none hV
  obtain ⟨a0, rfl, rfl, rfl, w0⟩ := open_int Try.underlying3 (hval 0 3 v0 rfl rfl) h0
  obtain ⟨b1, len1, cap1, rfl⟩ := okWide_slice Try.underlying38 (hval 1 38 v1 rfl rfl)
  have k1 := h1
  have lt1 : ∀ x ∈ p1, x.block < W.heap.size := by obtain ⟨m, hm⟩ := k1; exact DataW.trod_lt m _ _ _ hm
  obtain ⟨A1, c1, l1, e1, hr1, hc1, hm1, hs1, hq1⟩ := Opens.open_arg hsz (j := 1) rfl rfl (B := 40) (by kernel_rfl) Try.underlying38 (by kernel_rfl) (Opens.opens_struct (g := fun x_ : S79 => (x_.f0, x_.f1, x_.f2, x_.f3)) (fun a_ => ⟨a_.1, a_.2.1, a_.2.2.1, a_.2.2.2⟩) (fun _ => rfl) Try.underlying79 (by kernel_rfl) (Opens.opens_cons rfl rfl (by kernel_rfl) (Opens.opens_int Try.underlying3) (Opens.opens_cons rfl rfl (by kernel_rfl) (Opens.opens_int Try.underlying3) (Opens.opens_cons rfl rfl (by kernel_rfl) (Opens.opens_int Try.underlying3) (Opens.opens_last rfl rfl (by kernel_rfl) (Opens.opens_string Try.underlying9)))))) h1 rfl
  injection e1 with e1a e1b e1c
  subst e1a e1b e1c
  obtain ⟨a2, rfl, rfl, rfl, w2⟩ := open_int Try.underlying3 (hval 2 3 v2 rfl rfl) h2
  obtain ⟨b3, len3, cap3, rfl⟩ := okWide_slice Try.underlying38 (hval 3 38 v3 rfl rfl)
  have k3 := h3
  have lt3 : ∀ x ∈ p3, x.block < W.heap.size := by obtain ⟨m, hm⟩ := k3; exact DataW.trod_lt m _ _ _ hm
  obtain ⟨A3, c3, l3, e3, hr3, hc3, hm3, hs3, hq3⟩ := Opens.open_arg hsz (j := 3) rfl rfl (B := 40) (by kernel_rfl) Try.underlying38 (by kernel_rfl) (Opens.opens_struct (g := fun x_ : S79 => (x_.f0, x_.f1, x_.f2, x_.f3)) (fun a_ => ⟨a_.1, a_.2.1, a_.2.2.1, a_.2.2.2⟩) (fun _ => rfl) Try.underlying79 (by kernel_rfl) (Opens.opens_cons rfl rfl (by kernel_rfl) (Opens.opens_int Try.underlying3) (Opens.opens_cons rfl rfl (by kernel_rfl) (Opens.opens_int Try.underlying3) (Opens.opens_cons rfl rfl (by kernel_rfl) (Opens.opens_int Try.underlying3) (Opens.opens_last rfl rfl (by kernel_rfl) (Opens.opens_string Try.underlying9)))))) h3 rfl
  injection e3 with e3a e3b e3c
  subst e3a e3b e3c
  clear hA0 hval0 hsz0 hsz
  obtain ⟨k, h⟩ := Pure.FrameApart a0 l1 a2 l3 w0 hm1 hs1 hq1 w2 hm3 hs3 hq3
  refine (QFrameApart.chirographkeep_FrameApart.calls k a0 _ _ l1 a2 _ _ l3 true W hr1 hc1 hr3 hc3 h rfl).mono fun e W' ⟨he, bel0⟩ => ?_
  have bel : Below W.heap.size W W' := bel0
  subst he
  exact ⟨_, rfl, _, _, _, [], _, [], hW', trodAll_mk1 (shut_bool Try.underlying4 _), (trodAll_cons_mk (shut_int Try.underlying3 w0) (trodAll_cons_mk (Below.trod laidOut (by kernel_rfl) (of_decide_eq_true (by kernel_rfl)) k1 bel lt1) (trodAll_cons_mk (shut_int Try.underlying3 w2) (trodAll_cons_mk (Below.trod laidOut (by kernel_rfl) (of_decide_eq_true (by kernel_rfl)) k3 bel lt3) trodAll_mk0)))), rfl, bel.frame _, fun h => by cases h⟩
theorem over : Rows.frameApartRow.holds Try.pinned (OpenSpec.ofChange Rows.frameApartSpec) :=
  OpenClaim.holds_of_wide 8 Try.f8 rfl rfl rfl rfl rfl rfl rfl ⟨rfl, rfl, rfl, rfl, rfl⟩ rfl rfl rfl rfl rfl (by kernel_rfl) Try.func8 (by kernel_rfl)
    (of_decide_eq_true (by kernel_rfl)) (by unfold Func.isWrapper; first | (rw [if_pos (by decide +kernel)]; kernel_rfl) | (rw [if_neg (by decide +kernel)]; exact ⟨rfl, rfl⟩))
    (fun os started H enc _ => lifted os started H enc)
theorem proved : Rows.FrameApartSaid := over
#print axioms proved
end Go.Proofs.Ytgkfmaiepjjgkaa.frameApart
namespace Go.Proofs.Ytgkfmaiepjjgkaa
/-- The row, under a short name, for the claim. -/
theorem frameApart_holds : Rows.FrameApartSaid := frameApart.proved
end Go.Proofs.Ytgkfmaiepjjgkaa
