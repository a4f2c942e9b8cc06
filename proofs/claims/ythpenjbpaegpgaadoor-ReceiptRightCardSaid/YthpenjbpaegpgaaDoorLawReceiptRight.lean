/- ReceiptRight: the card, from the walk of the value machine. Conditions: none beyond the card's own. -/
import Derived.Lib.LaidIn
import Derived.Lib.LaidU8T
import Derived.Test.YthpenjbpaegpgaaDoorTie
import Derived.Test.YthpenjbpaegpgaaDoorCards
import Derived.Handed
import Derived.Lay
import Derived.MakeChecks
import Derived.LaidHandle
import Derived.SevenTiedAt
import Derived.Test.YthpenjbpaegpgaaDoorRows
import Derived.Test.YthpenjbpaegpgaaDoorReceiptRightW
import Derived.Test.YthpenjbpaegpgaaDoorRawsO
import Derived.Test.YthpenjbpaegpgaaDoorShaK
import Derived.WalkKit
import Derived.ProofKit
import Derived.OpenShut
import Derived.ShutString
import Derived.ChangeOld
import Derived.Below
import Derived.SizedLaws
import Derived.Lib.SmallJoins
namespace Go.Proofs.YthpenjbpaegpgaaDoor.receiptRight
open Go.ChangeShapes Go.WideShapes Go.ChangeAt Go.RowKit Go.Joins Go.Proofs.YthpenjbpaegpgaaDoor Go.Proofs.YthpenjbpaegpgaaDoor.Vm
open Go.ChangeMaps (open_string shut_string)
set_option linter.unusedVariables false
theorem own : ownKnob Tryd.prog.godebug = none := by kernel_rfl
theorem laidOut : laidOutB Tryd.prog = true := by kernel_rfl
theorem laidPlain (w : World) : laidMetH Tryd.prog Rows.receiptRightRow.laid w = laidMet Tryd.prog Rows.receiptRightRow.laid w := Go.MakeChecks.laidMetH_plain _ _ _ (by kernel_rfl)
set_option maxRecDepth 100000 in
theorem lifted (os : Os) (started : os.Started) (H : Type) (enc : TypeId × Value → H) :
    ReturnsInHanded {} Tryd.checked os 3 .any (fun w args => (Rows.receiptRightSpec.pre enc Tryd.prog Tryd.f3 Rows.receiptRightRow.domain false w args ∧ laidMetH Tryd.prog Rows.receiptRightRow.laid w) ∧ sizedMet enc Tryd.prog Tryd.f3 (OpenSpec.ofChange Rows.receiptRightSpec) false w args) (Rows.receiptRightSpec.post enc Tryd.prog Tryd.f3 false true false false) := by
  refine returnsInHanded_of_change_and (C := Tryd.checked) (X := fun w _ => laidMetH Tryd.prog Rows.receiptRightRow.laid w) (fun _ _ _ hh h => h.of_heap hh) own started (by kernel_rfl) Tryd.func3
    (ChangeSpec.witness_at (enc := enc) (C := Tryd.checked) (os := os) (X := fun w _ => laidMetH Tryd.prog Rows.receiptRightRow.laid w) false (World.laidAll Tryd.prog os Rows.receiptRightRow.laid) #[.int .i64 0, .slice none 0 0, .int .i64 0] 8 (World.laidAll_os _ _ _) (by kernel_rfl) (by kernel_rfl) (by kernel_rfl) (by kernel_rfl) (by kernel_rfl) (by rw [laidPlain]; exact laidMet_laidAll _ (by kernel_rfl) (by kernel_rfl))) ?_
  intro W base args ds gs before hval0 hW hcnd hsz0 hL_ _
  have hsz : (DataW.weightsEach Tryd.prog (Tryd.f3.params.toList ++ Rows.receiptRightSpec.plain.varTypes Tryd.prog) (ds ++ gs)).all (· ≤ reachBytes) = true := hsz0
  have hval : ∀ (j : Nat) t v, Tryd.f3.params[j]? = some t → args[j]? = some v → Value.okWide Tryd.prog W .any base t v := hval0
  have hW' := hW
  obtain ⟨p, q, hA0, hV, rfl, hfz, hnd⟩ := hW
  have hA : DataW.TrodAll enc Tryd.prog W 0 (fun _ => true) true Tryd.f3.params.toList args.toList ds p := hA0
  rw [Tryd.params3] at hA hval hsz
  obtain ⟨v0, vs0, d0, ds0, p0, q0, hargs, rfl, rfl, h0, r0⟩ := trodAll_cons hA
  obtain ⟨v1, vs1, d1, ds1, p1, q1, rfl, rfl, rfl, h1, r1⟩ := trodAll_cons r0
  obtain ⟨v2, vs2, d2, ds2, p2, q2, rfl, rfl, rfl, h2, r2⟩ := trodAll_cons r1
  obtain ⟨rfl, rfl, rfl⟩ := trodAll_nil r2
  obtain rfl : args = #[v0, v1, v2] := by cases args; simp_all
  obtain ⟨rfl, rfl⟩ := trodVars_none hV
  obtain ⟨a0, rfl, rfl, rfl, w0⟩ := open_int Tryd.underlying3 (hval 0 3 v0 rfl rfl) h0
  have k1 := h1
  have lt1 : ∀ x ∈ p1, x.block < W.heap.size := by obtain ⟨m, hm⟩ := k1; exact DataW.trod_lt m _ _ _ hm
  obtain ⟨l1, hr1, hl1, hq1⟩ := open_rawsW Tryd.underlying22 Tryd.underlying29 ⟨rfl, rfl, rfl, rfl⟩ Tryd.underlying3 Tryd.underlying3 Tryd.underlying3 Tryd.underlying9 ⟨by kernel_rfl, by kernel_rfl, by kernel_rfl, by kernel_rfl⟩ (by kernel_rfl) (hval 1 22 v1 rfl rfl) h1
  obtain ⟨a2, rfl, rfl, rfl, w2⟩ := open_int Tryd.underlying3 (hval 2 3 v2 rfl rfl) h2
  have hw1 : l1.length * 40 ≤ 140737488351232 := by
    have h40 : Tryd.prog.bytesOf 29 = 40 := by kernel_rfl
    have := hq1 140737488351232 (fun n hn => by
      have h := List.all_eq_true.1 hsz n (DataW.weights_mem_each (j := 1) (t := 22) rfl rfl n hn)
      exact of_decide_eq_true h)
    rwa [h40] at this
  clear hA0 hval0 hsz0 hsz
  have hL := hL_
  rw [laidPlain] at hL
  have hst := steps_read (Lib.laidMet.reads hL (.head _))
  obtain ⟨T, hT⟩ := turn_fn (g := numsG 0 .u32 stepsL) rfl steps_len
  refine ((fnReceiptRight (feeds hT) a0 a2 hl1 hw1).calls rfl W #[.int .i64 a0, v1, .int .i64 a2] rfl (RAs.get (.cons (RA.flat rfl) (.cons (.pv _ _ hr1) (.cons (RA.flat rfl) .nil)))) (glo_nums hst) nums_flat).mono fun e W' ⟨he, bel0⟩ => ?_
  have bel : Below W.heap.size W W' := bel0
  subst he
  exact ⟨_, rfl, _, _, _, [], _, [], hW', trodAll_mk1 (shut_bool Tryd.underlying4 _), (trodAll_cons_mk (shut_int Tryd.underlying3 w0) (trodAll_cons_mk (Below.trod laidOut (by kernel_rfl) (of_decide_eq_true (by kernel_rfl)) k1 bel lt1) (trodAll_cons_mk (shut_int Tryd.underlying3 w2) trodAll_mk0))), rfl, bel.frame _, fun h => by cases h⟩
theorem over : Rows.receiptRightRow.holds Tryd.pinned (OpenSpec.ofChange Rows.receiptRightSpec) :=
  OpenClaim.holds_of_wide 3 Tryd.f3 rfl rfl rfl rfl rfl rfl rfl ⟨rfl, rfl, rfl, rfl, rfl⟩ rfl rfl rfl rfl rfl (by kernel_rfl) Tryd.func3 (by kernel_rfl)
    (of_decide_eq_true (by kernel_rfl)) (by unfold Func.isWrapper; first | (rw [if_pos (by decide +kernel)]; kernel_rfl) | (rw [if_neg (by decide +kernel)]; exact ⟨rfl, rfl⟩))
    (fun os started H enc _ => lifted os started H enc)
theorem proved : Rows.ReceiptRightSaid := over
#print axioms proved
end Go.Proofs.YthpenjbpaegpgaaDoor.receiptRight
namespace Go.Proofs.YthpenjbpaegpgaaDoor
/-- The card: the row, its listed variable tied to the program's text. -/
theorem receiptRight_holds : Rows.ReceiptRightCardSaid :=
  Claim7.holds_tied_plain_at .later [] [.data] true (true, "80ec83fef9506d84f8f582377b808b43ccb22a2827bc5c61365a860658fd1589") false
    receiptRight.proved (fun _ h => by cases h) (by kernel_rfl) (fun _ h => by cases h) receiptRight_row_tie rfl ⟨rfl, rfl⟩ (by kernel_rfl) rfl
    (fun f fn hf hfn => by
      obtain rfl : f = 3 := Option.some.inj ((show Tryd.prog.funcNamed "chirograph/chirographkeep.ReceiptRight" = some 3 by kernel_rfl).symm.trans hf) |>.symm
      obtain rfl : fn = Tryd.f3 := (Option.some.inj (Tryd.func3.symm.trans hfn)).symm
      exact ⟨by kernel_rfl, fun j t ht => by
        have hall : (Tryd.f3.params.toList.all fun t => !Tryd.prog.wantsStandIn t) = true := by kernel_rfl
        have hm : t ∈ Tryd.f3.params.toList := by
          rw [← Array.getElem?_toList] at ht
          exact List.mem_of_getElem? ht
        exact (show Tryd.prog.wantsStandIn t = false by simpa using List.all_eq_true.1 hall t hm)⟩)
    (by kernel_rfl)
end Go.Proofs.YthpenjbpaegpgaaDoor
