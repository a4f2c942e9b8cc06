-- WRITTEN BY mkprint.py, a program of this session (out of the translation). Lean checks it.
import Derived.Test.YtpgegljlgicpkaaDoorTie
import Derived.Test.YtpgegljlgicpkaaDoorCards
import Derived.Handed
import Derived.Lay
import Derived.MakeChecks
import Derived.LaidHandle
import Derived.SevenTiedAt
import Derived.Test.YtpgegljlgicpkaaDoorRows
import Derived.Test.YtpgegljlgicpkaaDoorQPathSoundx7
import Derived.Test.YtpgegljlgicpkaaDoorQPathSoundx0
import Derived.Test.YtpgegljlgicpkaaDoorPurePathSound
import Derived.Test.YtpgegljlgicpkaaDoorOpens
import Derived.WalkKit
import Derived.ProofKit
import Derived.OpenShut
import Derived.ShutString
import Derived.ChangeOld
import Derived.Below
import Derived.SizedLaws
import Derived.Lib.SmallJoins
namespace Go.Proofs.YtpgegljlgicpkaaDoor.pathSound
open Go.ChangeShapes Go.WideShapes Go.ChangeAt Go.RowKit Go.Joins Go.Proofs.YtpgegljlgicpkaaDoor Go.Proofs.YtpgegljlgicpkaaDoor.QPathSound
open Go.ChangeMaps (open_string shut_string)
set_option linter.unusedVariables false
theorem own : ownKnob Tryd.prog.godebug = none := by kernel_rfl
theorem laidOut : laidOutB Tryd.prog = true := by kernel_rfl
theorem laidPlain (w : World) : laidMetH Tryd.prog Rows.pathSoundRow.laid w = laidMet Tryd.prog Rows.pathSoundRow.laid w := Go.MakeChecks.laidMetH_plain _ _ _ (by kernel_rfl)
set_option maxRecDepth 100000 in
theorem lifted (os : Os) (started : os.Started) (H : Type) (enc : TypeId × Value → H) :
    ReturnsInHanded {} Tryd.checked os 6 .any (fun w args => (Rows.pathSoundSpec.pre enc Tryd.prog Tryd.f6 Rows.pathSoundRow.domain false w args ∧ laidMetH Tryd.prog Rows.pathSoundRow.laid w) ∧ sizedMet enc Tryd.prog Tryd.f6 (OpenSpec.ofChange Rows.pathSoundSpec) false w args) (Rows.pathSoundSpec.post enc Tryd.prog Tryd.f6 false true false false) := by
  refine returnsInHanded_of_change_and (C := Tryd.checked) (X := fun w _ => laidMetH Tryd.prog Rows.pathSoundRow.laid w) (fun _ _ _ hh h => h.of_heap hh) own started (by kernel_rfl) Tryd.func6
    (ChangeSpec.witness_at (enc := enc) (C := Tryd.checked) (os := os) (X := fun w _ => laidMetH Tryd.prog Rows.pathSoundRow.laid w) false (World.laidAll Tryd.prog os Rows.pathSoundRow.laid) #[.slice none 0 0, .int .i64 0, .agg #[.int .i64 0, .int .i64 0, .int .i64 0, .string ByteArray.empty], .slice none 0 0] 8 (World.laidAll_os _ _ _) (by kernel_rfl) (by kernel_rfl) (by kernel_rfl) (by kernel_rfl) (by kernel_rfl) (by rw [laidPlain]; exact laidMet_laidAll _ (by kernel_rfl) (by kernel_rfl))) ?_
  intro W base args ds gs before hval0 hW hcnd hsz0 hL_ _
  have hsz : (DataW.weightsEach Tryd.prog (Tryd.f6.params.toList ++ Rows.pathSoundSpec.plain.varTypes Tryd.prog) (ds ++ gs)).all (· ≤ reachBytes) = true := hsz0
  have hval : ∀ (j : Nat) t v, Tryd.f6.params[j]? = some t → args[j]? = some v → Value.okWide Tryd.prog W .any base t v := hval0
  have hW' := hW
  obtain ⟨p, q, hA0, hV, rfl, hfz, hnd⟩ := hW
  have hA : DataW.TrodAll enc Tryd.prog W 0 (fun _ => true) true Tryd.f6.params.toList args.toList ds p := hA0
  rw [Tryd.params6] at hA hval hsz
  obtain ⟨v0, vs0, d0, ds0, p0, q0, hargs, rfl, rfl, h0, r0⟩ := trodAll_cons hA
  obtain ⟨v1, vs1, d1, ds1, p1, q1, rfl, rfl, rfl, h1, r1⟩ := trodAll_cons r0
  obtain ⟨v2, vs2, d2, ds2, p2, q2, rfl, rfl, rfl, h2, r2⟩ := trodAll_cons r1
  obtain ⟨v3, vs3, d3, ds3, p3, q3, rfl, rfl, rfl, h3, r3⟩ := trodAll_cons r2
  obtain ⟨rfl, rfl, rfl⟩ := trodAll_nil r3
  obtain rfl : args = #[v0, v1, v2, v3] := by cases args; simp_all
  obtain ⟨rfl, rfl⟩ := trodVars_none hV
  obtain ⟨b0, len0, cap0, rfl⟩ := okWide_slice Tryd.underlying31 (hval 0 31 v0 rfl rfl)
  have k0 := h0
  have lt0 : ∀ x ∈ p0, x.block < W.heap.size := by obtain ⟨m, hm⟩ := k0; exact DataW.trod_lt m _ _ _ hm
  obtain ⟨A0, c0, l0, e0, hr0, hc0, hm0, hs0, hq0⟩ := Opens.open_arg hsz (j := 0) rfl rfl (B := 40) (by kernel_rfl) Tryd.underlying31 (by kernel_rfl) (Opens.opens_struct (g := fun x_ : S40 => (x_.f0, x_.f1, x_.f2, x_.f3)) (fun a_ => ⟨a_.1, a_.2.1, a_.2.2.1, a_.2.2.2⟩) (fun _ => rfl) Tryd.underlying40 (by kernel_rfl) (Opens.opens_cons rfl rfl (by kernel_rfl) (Opens.opens_int Tryd.underlying3) (Opens.opens_cons rfl rfl (by kernel_rfl) (Opens.opens_int Tryd.underlying3) (Opens.opens_cons rfl rfl (by kernel_rfl) (Opens.opens_int Tryd.underlying3) (Opens.opens_last rfl rfl (by kernel_rfl) (Opens.opens_string Tryd.underlying9)))))) h0 rfl
  injection e0 with e0a e0b e0c
  subst e0a e0b e0c
  obtain ⟨a1, rfl, rfl, rfl, w1⟩ := open_int Tryd.underlying3 (hval 1 3 v1 rfl rfl) h1
  have k2 := h2
  have lt2 : ∀ x ∈ p2, x.block < W.heap.size := by obtain ⟨m, hm⟩ := k2; exact DataW.trod_lt m _ _ _ hm
  obtain ⟨c2_0, c2_1, c2_2, c2_3, y2_0, y2_1, y2_2, y2_3, ny2, rfl, rfl, rfl, g2_0, g2_1, g2_2, g2_3⟩ := open_agg4 Tryd.underlying40 (by kernel_rfl) (by kernel_rfl) (hval 2 40 v2 rfl rfl) h2
  obtain ⟨a2_0, o2_0, w2_0⟩ := (Opens.opens_int Tryd.underlying3) _ _ _ g2_0
  obtain rfl : c2_0 = Value.int .i64 a2_0 := by injection o2_0
  obtain ⟨a2_1, o2_1, w2_1⟩ := (Opens.opens_int Tryd.underlying3) _ _ _ g2_1
  obtain rfl : c2_1 = Value.int .i64 a2_1 := by injection o2_1
  obtain ⟨a2_2, o2_2, w2_2⟩ := (Opens.opens_int Tryd.underlying3) _ _ _ g2_2
  obtain rfl : c2_2 = Value.int .i64 a2_2 := by injection o2_2
  obtain ⟨a2_3, o2_3, w2_3⟩ := (Opens.opens_string Tryd.underlying9) _ _ _ g2_3
  obtain rfl : c2_3 = Value.string a2_3 := by injection o2_3
  obtain ⟨b3, len3, cap3, rfl⟩ := okWide_slice Tryd.underlying32 (hval 3 32 v3 rfl rfl)
  have k3 := h3
  have lt3 : ∀ x ∈ p3, x.block < W.heap.size := by obtain ⟨m, hm⟩ := k3; exact DataW.trod_lt m _ _ _ hm
  obtain ⟨A3, c3, l3, e3, hr3, hc3, hm3, hs3, hq3⟩ := Opens.open_arg hsz (j := 3) rfl rfl (B := 24) (by kernel_rfl) Tryd.underlying32 (by kernel_rfl) (Opens.opens_slice Tryd.underlying34 (by kernel_rfl) (Opens.opens_int Tryd.underlying5)) h3 rfl
  injection e3 with e3a e3b e3c
  subst e3a e3b e3c
  clear hA0 hval0 hsz0 hsz
  obtain ⟨k, h⟩ := Pure.PathSound l0 a1 a2_0 a2_1 a2_2 a2_3 l3 hm0 hs0 hq0 w1 w2_0 w2_1 w2_2 w2_3 hm3 hs3 hq3
  refine (QPathSound.chirographkeep_PathSound.calls k _ _ l0 a1 a2_0 a2_1 a2_2 a2_3 _ _ l3 true W hr0 hc0 hr3 hc3 h rfl).mono fun e W' ⟨he, bel0⟩ => ?_
  have bel : Below W.heap.size W W' := bel0
  subst he
  exact ⟨_, rfl, _, _, _, [], _, [], hW', trodAll_mk1 (shut_bool Tryd.underlying4 _), (trodAll_cons_mk (Below.trod laidOut (by kernel_rfl) (of_decide_eq_true (by kernel_rfl)) k0 bel lt0) (trodAll_cons_mk (shut_int Tryd.underlying3 w1) (trodAll_cons_mk (Below.trod laidOut (by kernel_rfl) (of_decide_eq_true (by kernel_rfl)) k2 bel lt2) (trodAll_cons_mk (Below.trod laidOut (by kernel_rfl) (of_decide_eq_true (by kernel_rfl)) k3 bel lt3) trodAll_mk0)))), rfl, bel.frame _, fun h => by cases h⟩
theorem over : Rows.pathSoundRow.holds Tryd.pinned (OpenSpec.ofChange Rows.pathSoundSpec) :=
  OpenClaim.holds_of_wide 6 Tryd.f6 rfl rfl rfl rfl rfl rfl rfl ⟨rfl, rfl, rfl, rfl, rfl⟩ rfl rfl rfl rfl rfl (by kernel_rfl) Tryd.func6 (by kernel_rfl)
    (of_decide_eq_true (by kernel_rfl)) (by unfold Func.isWrapper; first | (rw [if_pos (by decide +kernel)]; kernel_rfl) | (rw [if_neg (by decide +kernel)]; exact ⟨rfl, rfl⟩))
    (fun os started H enc _ => lifted os started H enc)
theorem proved : Rows.PathSoundSaid := over
#print axioms proved
end Go.Proofs.YtpgegljlgicpkaaDoor.pathSound
namespace Go.Proofs.YtpgegljlgicpkaaDoor
/-- The card: the row, its listed variable tied to the program's text. -/
theorem pathSound_holds : Rows.PathSoundCardSaid :=
  Claim7.holds_tied_plain_at .later [] [.data] true (true, "ad58384af51211b158c4596f6f40f9f453303f8ca3782165ad87c3ee344405f6") false
    pathSound.proved (fun _ h => by cases h) (by kernel_rfl) (fun _ h => by cases h) pathSound_row_tie rfl ⟨rfl, rfl⟩ (by kernel_rfl) rfl
    (fun f fn hf hfn => by
      obtain rfl : f = 6 := Option.some.inj ((show Tryd.prog.funcNamed "chirograph/chirographkeep.PathSound" = some 6 by kernel_rfl).symm.trans hf) |>.symm
      obtain rfl : fn = Tryd.f6 := (Option.some.inj (Tryd.func6.symm.trans hfn)).symm
      exact ⟨by kernel_rfl, fun j t ht => by
        have hall : (Tryd.f6.params.toList.all fun t => !Tryd.prog.wantsStandIn t) = true := by kernel_rfl
        have hm : t ∈ Tryd.f6.params.toList := by
          rw [← Array.getElem?_toList] at ht
          exact List.mem_of_getElem? ht
        exact (show Tryd.prog.wantsStandIn t = false by simpa using List.all_eq_true.1 hall t hm)⟩)
    (by kernel_rfl)
end Go.Proofs.YtpgegljlgicpkaaDoor
