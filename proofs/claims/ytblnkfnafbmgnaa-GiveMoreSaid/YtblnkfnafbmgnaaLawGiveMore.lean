-- WRITTEN BY mkprint.py, a program of this session (out of the translation). Lean checks it.
import Derived.Test.YtblnkfnafbmgnaaRows
import Derived.Test.YtblnkfnafbmgnaaQGiveMorex9
import Derived.Test.YtblnkfnafbmgnaaQGiveMorex0
import Derived.Test.YtblnkfnafbmgnaaPureGiveMore
import Derived.Test.YtblnkfnafbmgnaaVGiveMoreOpens
import Derived.WalkKit
import Derived.ProofKit
import Derived.OpenShut
import Derived.ShutString
import Derived.ChangeOld
import Derived.Below
import Derived.SizedLaws
import Derived.Lib.SmallJoins
namespace Go.Proofs.Ytblnkfnafbmgnaa.giveMore
open Go.ChangeShapes Go.WideShapes Go.ChangeAt Go.RowKit Go.Joins Go.Proofs.Ytblnkfnafbmgnaa Go.Proofs.Ytblnkfnafbmgnaa.QGiveMore
open Go.ChangeMaps (open_string shut_string)
set_option linter.unusedVariables false
theorem own : ownKnob Try.prog.godebug = none := by kernel_rfl
theorem laidOut : laidOutB Try.prog = true := by kernel_rfl
set_option maxRecDepth 100000 in
theorem lifted (os : Os) (started : os.Started) (H : Type) (enc : TypeId × Value → H) :
    ReturnsInHanded {} Try.checked os 7 .any (Rows.giveMoreSpec.pre6 enc Try.prog Try.f7 Rows.giveMoreRow.domain false) (Rows.giveMoreSpec.post enc Try.prog Try.f7 false true false false) := by
  refine returnsInHanded_of_change_sized (C := Try.checked) own started (by kernel_rfl) Try.func7
    (ChangeSpec.witness6 (enc := enc) (C := Try.checked) false ⟨#[], #[.slice none 0 0, .agg #[.int .i64 0, .int .i64 0, .int .i64 0, .string ByteArray.empty], .int .i64 0, .int .i64 0, .int .i64 0], []⟩ 8 (by kernel_rfl) (by kernel_rfl) (by kernel_rfl) (by kernel_rfl)) ?_
  intro W base args ds gs before hval0 hW hcnd hsz0 _
  have hsz : (DataW.weightsEach Try.prog (Try.f7.params.toList ++ Rows.giveMoreSpec.plain.varTypes Try.prog) (ds ++ gs)).all (· ≤ reachBytes) = true := hsz0
  have hval : ∀ (j : Nat) t v, Try.f7.params[j]? = some t → args[j]? = some v → Value.okWide Try.prog W .any base t v := hval0
  have hW' := hW
  obtain ⟨p, q, hA0, hV, rfl, hfz, hnd⟩ := hW
  have hA : DataW.TrodAll enc Try.prog W 0 (fun _ => true) true Try.f7.params.toList args.toList ds p := hA0
  rw [Try.params7] at hA hval hsz
  obtain ⟨v0, vs0, d0, ds0, p0, q0, hargs, rfl, rfl, h0, r0⟩ := trodAll_cons hA
  obtain ⟨v1, vs1, d1, ds1, p1, q1, rfl, rfl, rfl, h1, r1⟩ := trodAll_cons r0
  obtain ⟨v2, vs2, d2, ds2, p2, q2, rfl, rfl, rfl, h2, r2⟩ := trodAll_cons r1
  obtain ⟨v3, vs3, d3, ds3, p3, q3, rfl, rfl, rfl, h3, r3⟩ := trodAll_cons r2
  obtain ⟨v4, vs4, d4, ds4, p4, q4, rfl, rfl, rfl, h4, r4⟩ := trodAll_cons r3
  obtain ⟨rfl, rfl, rfl⟩ := trodAll_nil r4
  obtain rfl : args = #[v0, v1, v2, v3, v4] := by cases args; simp_all
  obtain ⟨rfl, rfl⟩ := trodVars_none hV
  obtain ⟨b0, len0, cap0, rfl⟩ := okWide_slice Try.underlying22 (hval 0 22 v0 rfl rfl)
  have k0 := h0
  have lt0 : ∀ x ∈ p0, x.block < W.heap.size := by obtain ⟨m, hm⟩ := k0; exact DataW.trod_lt m _ _ _ hm
  obtain ⟨A0, c0, l0, e0, hr0, hc0, hm0, hs0, hq0⟩ := Opens.open_arg hsz (j := 0) rfl rfl (B := 40) (by kernel_rfl) Try.underlying22 (by kernel_rfl) (Opens.opens_struct (g := fun x_ : S40 => (x_.f0, x_.f1, x_.f2, x_.f3)) (fun a_ => ⟨a_.1, a_.2.1, a_.2.2.1, a_.2.2.2⟩) (fun _ => rfl) Try.underlying40 (by kernel_rfl) (Opens.opens_cons rfl rfl (by kernel_rfl) (Opens.opens_int Try.underlying3) (Opens.opens_cons rfl rfl (by kernel_rfl) (Opens.opens_int Try.underlying3) (Opens.opens_cons rfl rfl (by kernel_rfl) (Opens.opens_int Try.underlying3) (Opens.opens_last rfl rfl (by kernel_rfl) (Opens.opens_string Try.underlying9)))))) h0 rfl
  injection e0 with e0a e0b e0c
  subst e0a e0b e0c
  have k1 := h1
  have lt1 : ∀ x ∈ p1, x.block < W.heap.size := by obtain ⟨m, hm⟩ := k1; exact DataW.trod_lt m _ _ _ hm
  obtain ⟨c1_0, c1_1, c1_2, c1_3, y1_0, y1_1, y1_2, y1_3, ny1, rfl, rfl, rfl, g1_0, g1_1, g1_2, g1_3⟩ := open_agg4 Try.underlying40 (by kernel_rfl) (by kernel_rfl) (hval 1 40 v1 rfl rfl) h1
  obtain ⟨a1_0, o1_0, w1_0⟩ := (Opens.opens_int Try.underlying3) _ _ _ g1_0
  obtain rfl : c1_0 = Value.int .i64 a1_0 := by injection o1_0
  obtain ⟨a1_1, o1_1, w1_1⟩ := (Opens.opens_int Try.underlying3) _ _ _ g1_1
  obtain rfl : c1_1 = Value.int .i64 a1_1 := by injection o1_1
  obtain ⟨a1_2, o1_2, w1_2⟩ := (Opens.opens_int Try.underlying3) _ _ _ g1_2
  obtain rfl : c1_2 = Value.int .i64 a1_2 := by injection o1_2
  obtain ⟨a1_3, o1_3, w1_3⟩ := (Opens.opens_string Try.underlying9) _ _ _ g1_3
  obtain rfl : c1_3 = Value.string a1_3 := by injection o1_3
  obtain ⟨a2, rfl, rfl, rfl, w2⟩ := open_int Try.underlying3 (hval 2 3 v2 rfl rfl) h2
  obtain ⟨a3, rfl, rfl, rfl, w3⟩ := open_int Try.underlying3 (hval 3 3 v3 rfl rfl) h3
  obtain ⟨a4, rfl, rfl, rfl, w4⟩ := open_int Try.underlying3 (hval 4 3 v4 rfl rfl) h4
  clear hA0 hval0 hsz0 hsz
  obtain ⟨k, h⟩ := Pure.GiveMore l0 a1_0 a1_1 a1_2 a1_3 a2 a3 a4 hm0 hs0 hq0 w1_0 w1_1 w1_2 w1_3 w2 w3 w4
  refine (QGiveMore.chirographkeep_GiveMore.calls k _ _ l0 a1_0 a1_1 a1_2 a1_3 a2 a3 a4 true W hr0 hc0 h rfl).mono fun e W' ⟨he, bel0⟩ => ?_
  have bel : Below W.heap.size W W' := bel0
  subst he
  exact ⟨_, rfl, _, _, _, [], _, [], hW', trodAll_mk1 (shut_bool Try.underlying4 _), (trodAll_cons_mk (Below.trod laidOut (by kernel_rfl) (of_decide_eq_true (by kernel_rfl)) k0 bel lt0) (trodAll_cons_mk (Below.trod laidOut (by kernel_rfl) (of_decide_eq_true (by kernel_rfl)) k1 bel lt1) (trodAll_cons_mk (shut_int Try.underlying3 w2) (trodAll_cons_mk (shut_int Try.underlying3 w3) (trodAll_cons_mk (shut_int Try.underlying3 w4) trodAll_mk0))))), rfl, bel.frame _, fun h => by cases h⟩
theorem over : Rows.giveMoreRow.holds Try.pinned (OpenSpec.ofChange Rows.giveMoreSpec) :=
  OpenClaim.holds_of_wide 7 Try.f7 rfl rfl rfl rfl rfl rfl rfl ⟨rfl, rfl, rfl, rfl, rfl⟩ rfl rfl rfl rfl rfl (by kernel_rfl) Try.func7 (by kernel_rfl)
    (of_decide_eq_true (by kernel_rfl)) (by unfold Func.isWrapper; first | (rw [if_pos (by decide +kernel)]; kernel_rfl) | (rw [if_neg (by decide +kernel)]; exact ⟨rfl, rfl⟩))
    (fun os started H enc _ => lifted os started H enc)
theorem proved : Rows.GiveMoreSaid := over
#print axioms proved
end Go.Proofs.Ytblnkfnafbmgnaa.giveMore
namespace Go.Proofs.Ytblnkfnafbmgnaa
/-- The row, under a short name, for the claim. -/
theorem giveMore_holds : Rows.GiveMoreSaid := giveMore.proved
end Go.Proofs.Ytblnkfnafbmgnaa
