/- JustOne: the card, from the walk of the value machine. Conditions: none beyond the card's own. -/
import Derived.Lib.LaidIn
import Derived.Lib.LaidU8T
import Derived.Test.YtcbdhdblchmofaaDoorTie
import Derived.Test.YtcbdhdblchmofaaDoorCards
import Derived.Handed
import Derived.Lay
import Derived.MakeChecks
import Derived.LaidHandle
import Derived.SevenTiedAt
import Derived.Test.YtcbdhdblchmofaaDoorRows
import Derived.Test.YtcbdhdblchmofaaDoorJustOneW
import Derived.Test.YtcbdhdblchmofaaDoorOpens
import Derived.WalkKit
import Derived.ProofKit
import Derived.OpenShut
import Derived.ShutString
import Derived.ChangeOld
import Derived.Below
import Derived.SizedLaws
import Derived.Lib.SmallJoins
namespace Go.Proofs.YtcbdhdblchmofaaDoor.justOne
open Go.ChangeShapes Go.WideShapes Go.ChangeAt Go.RowKit Go.Joins Go.Proofs.YtcbdhdblchmofaaDoor Go.Proofs.YtcbdhdblchmofaaDoor.Vm
open Go.ChangeMaps (open_string shut_string)
set_option linter.unusedVariables false
theorem own : ownKnob Tryd.prog.godebug = none := by kernel_rfl
theorem laidOut : laidOutB Tryd.prog = true := by kernel_rfl
theorem laidPlain (w : World) : laidMetH Tryd.prog Rows.justOneRow.laid w = laidMet Tryd.prog Rows.justOneRow.laid w := Go.MakeChecks.laidMetH_plain _ _ _ (by kernel_rfl)
set_option maxRecDepth 100000 in
theorem lifted (os : Os) (started : os.Started) (H : Type) (enc : TypeId × Value → H) :
    ReturnsInHanded {} Tryd.checked os 8 .any (fun w args => (Rows.justOneSpec.pre enc Tryd.prog Tryd.f8 Rows.justOneRow.domain false w args ∧ laidMetH Tryd.prog Rows.justOneRow.laid w) ∧ sizedMet enc Tryd.prog Tryd.f8 (OpenSpec.ofChange Rows.justOneSpec) false w args) (Rows.justOneSpec.post enc Tryd.prog Tryd.f8 false true false false) := by
  refine returnsInHanded_of_change_and (C := Tryd.checked) (X := fun w _ => laidMetH Tryd.prog Rows.justOneRow.laid w) (fun _ _ _ hh h => h.of_heap hh) own started (by kernel_rfl) Tryd.func8
    (ChangeSpec.witness_at (enc := enc) (C := Tryd.checked) (os := os) (X := fun w _ => laidMetH Tryd.prog Rows.justOneRow.laid w) false (World.laidAll Tryd.prog os Rows.justOneRow.laid) #[.int .i64 0, .agg #[.int .i64 0, .int .i64 0, .int .i64 0, .string ByteArray.empty], .agg #[.int .i64 0, .int .i64 0, .int .i64 0, .string ByteArray.empty]] 8 (World.laidAll_os _ _ _) (by kernel_rfl) (by kernel_rfl) (by kernel_rfl) (by kernel_rfl) (by kernel_rfl) (by rw [laidPlain]; exact laidMet_laidAll _ (by kernel_rfl) (by kernel_rfl))) ?_
  intro W base args ds gs before hval0 hW hcnd hsz0 hL_ _
  have hsz : (DataW.weightsEach Tryd.prog (Tryd.f8.params.toList ++ Rows.justOneSpec.plain.varTypes Tryd.prog) (ds ++ gs)).all (· ≤ reachBytes) = true := hsz0
  have hval : ∀ (j : Nat) t v, Tryd.f8.params[j]? = some t → args[j]? = some v → Value.okWide Tryd.prog W .any base t v := hval0
  have hW' := hW
  obtain ⟨p, q, hA0, hV, rfl, hfz, hnd⟩ := hW
  have hA : DataW.TrodAll enc Tryd.prog W 0 (fun _ => true) true Tryd.f8.params.toList args.toList ds p := hA0
  rw [Tryd.params8] at hA hval hsz
  obtain ⟨v0, vs0, d0, ds0, p0, q0, hargs, rfl, rfl, h0, r0⟩ := trodAll_cons hA
  obtain ⟨v1, vs1, d1, ds1, p1, q1, rfl, rfl, rfl, h1, r1⟩ := trodAll_cons r0
  obtain ⟨v2, vs2, d2, ds2, p2, q2, rfl, rfl, rfl, h2, r2⟩ := trodAll_cons r1
  obtain ⟨rfl, rfl, rfl⟩ := trodAll_nil r2
  obtain rfl : args = #[v0, v1, v2] := by cases args; simp_all
  obtain ⟨rfl, rfl⟩ := trodVars_none hV
  obtain ⟨a0, rfl, rfl, rfl, w0⟩ := open_int Tryd.underlying3 (hval 0 3 v0 rfl rfl) h0
  have k1 := h1
  have lt1 : ∀ x ∈ p1, x.block < W.heap.size := by obtain ⟨m, hm⟩ := k1; exact DataW.trod_lt m _ _ _ hm
  obtain ⟨c1_0, c1_1, c1_2, c1_3, y1_0, y1_1, y1_2, y1_3, ny1, rfl, rfl, rfl, g1_0, g1_1, g1_2, g1_3⟩ := open_agg4 Tryd.underlying49 (by kernel_rfl) (by kernel_rfl) (hval 1 49 v1 rfl rfl) h1
  obtain ⟨a1_0, o1_0, w1_0⟩ := (Opens.opens_int Tryd.underlying3) _ _ _ g1_0
  obtain rfl : c1_0 = Value.int .i64 a1_0 := by injection o1_0
  obtain ⟨a1_1, o1_1, w1_1⟩ := (Opens.opens_int Tryd.underlying3) _ _ _ g1_1
  obtain rfl : c1_1 = Value.int .i64 a1_1 := by injection o1_1
  obtain ⟨a1_2, o1_2, w1_2⟩ := (Opens.opens_int Tryd.underlying3) _ _ _ g1_2
  obtain rfl : c1_2 = Value.int .i64 a1_2 := by injection o1_2
  obtain ⟨a1_3, o1_3, w1_3⟩ := (Opens.opens_string Tryd.underlying9) _ _ _ g1_3
  obtain rfl : c1_3 = Value.string a1_3 := by injection o1_3
  have k2 := h2
  have lt2 : ∀ x ∈ p2, x.block < W.heap.size := by obtain ⟨m, hm⟩ := k2; exact DataW.trod_lt m _ _ _ hm
  obtain ⟨c2_0, c2_1, c2_2, c2_3, y2_0, y2_1, y2_2, y2_3, ny2, rfl, rfl, rfl, g2_0, g2_1, g2_2, g2_3⟩ := open_agg4 Tryd.underlying49 (by kernel_rfl) (by kernel_rfl) (hval 2 49 v2 rfl rfl) h2
  obtain ⟨a2_0, o2_0, w2_0⟩ := (Opens.opens_int Tryd.underlying3) _ _ _ g2_0
  obtain rfl : c2_0 = Value.int .i64 a2_0 := by injection o2_0
  obtain ⟨a2_1, o2_1, w2_1⟩ := (Opens.opens_int Tryd.underlying3) _ _ _ g2_1
  obtain rfl : c2_1 = Value.int .i64 a2_1 := by injection o2_1
  obtain ⟨a2_2, o2_2, w2_2⟩ := (Opens.opens_int Tryd.underlying3) _ _ _ g2_2
  obtain rfl : c2_2 = Value.int .i64 a2_2 := by injection o2_2
  obtain ⟨a2_3, o2_3, w2_3⟩ := (Opens.opens_string Tryd.underlying9) _ _ _ g2_3
  obtain rfl : c2_3 = Value.string a2_3 := by injection o2_3
  clear hA0 hval0 hsz0 hsz
  have hL := hL_
  rw [laidPlain] at hL
  have htab : Shelf.Tabs W :=
    utf8Tabs_of_readsT (U8Types.of196 Tryd.laysValid) ⟨by kernel_rfl, by kernel_rfl, by kernel_rfl, by kernel_rfl, by kernel_rfl, by kernel_rfl, by kernel_rfl⟩ (Lib.laidMet.reads hL (.tail _ (.head _))) (Lib.laidMet.reads hL (.head _))
  refine ((fnJustOne a0 a1_0 a1_1 a1_2 a1_3 a2_0 a2_1 a2_2 a2_3).calls rfl W #[.int .i64 a0, .agg #[.int .i64 a1_0, .int .i64 a1_1, .int .i64 a1_2, .string a1_3], .agg #[.int .i64 a2_0, .int .i64 a2_1, .int .i64 a2_2, .string a2_3]] rfl (argsFlat rfl) (glo_tabs htab) tabs_flat).mono fun e W' ⟨he, bel0⟩ => ?_
  have bel : Below W.heap.size W W' := bel0
  subst he
  exact ⟨_, rfl, _, _, _, [], _, [], hW', trodAll_mk1 (shut_bool Tryd.underlying4 _), (trodAll_cons_mk (shut_int Tryd.underlying3 w0) (trodAll_cons_mk (Below.trod laidOut (by kernel_rfl) (of_decide_eq_true (by kernel_rfl)) k1 bel lt1) (trodAll_cons_mk (Below.trod laidOut (by kernel_rfl) (of_decide_eq_true (by kernel_rfl)) k2 bel lt2) trodAll_mk0))), rfl, bel.frame _, fun h => by cases h⟩
theorem over : Rows.justOneRow.holds Tryd.pinned (OpenSpec.ofChange Rows.justOneSpec) :=
  OpenClaim.holds_of_wide 8 Tryd.f8 rfl rfl rfl rfl rfl rfl rfl ⟨rfl, rfl, rfl, rfl, rfl⟩ rfl rfl rfl rfl rfl (by kernel_rfl) Tryd.func8 (by kernel_rfl)
    (of_decide_eq_true (by kernel_rfl)) (by unfold Func.isWrapper; first | (rw [if_pos (by decide +kernel)]; kernel_rfl) | (rw [if_neg (by decide +kernel)]; exact ⟨rfl, rfl⟩))
    (fun os started H enc _ => lifted os started H enc)
theorem proved : Rows.JustOneSaid := over
#print axioms proved
end Go.Proofs.YtcbdhdblchmofaaDoor.justOne
namespace Go.Proofs.YtcbdhdblchmofaaDoor
/-- The card: the row, its listed variable tied to the program's text. -/
theorem justOne_holds : Rows.JustOneCardSaid :=
  Claim7.holds_tied_plain_at .later [] [.data, .pinned] true (true, "8a4a5ac7924a3faa0488b22b1b1f70db036614af62740df0b2d9f6d466d48125") false
    justOne.proved (fun _ h => by cases h) (by kernel_rfl) (fun _ h => by cases h) justOne_row_tie rfl ⟨rfl, rfl⟩ (by kernel_rfl) rfl
    (fun f fn hf hfn => by
      obtain rfl : f = 8 := Option.some.inj ((show Tryd.prog.funcNamed "chirograph/chirographkeep.JustOne" = some 8 by kernel_rfl).symm.trans hf) |>.symm
      obtain rfl : fn = Tryd.f8 := (Option.some.inj (Tryd.func8.symm.trans hfn)).symm
      exact ⟨by kernel_rfl, fun j t ht => by
        have hall : (Tryd.f8.params.toList.all fun t => !Tryd.prog.wantsStandIn t) = true := by kernel_rfl
        have hm : t ∈ Tryd.f8.params.toList := by
          rw [← Array.getElem?_toList] at ht
          exact List.mem_of_getElem? ht
        exact (show Tryd.prog.wantsStandIn t = false by simpa using List.all_eq_true.1 hall t hm)⟩)
    (by kernel_rfl)
end Go.Proofs.YtcbdhdblchmofaaDoor
