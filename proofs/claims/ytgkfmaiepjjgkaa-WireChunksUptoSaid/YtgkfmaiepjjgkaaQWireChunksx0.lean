-- WRITTEN BY mkprint.py, a program of this session (out of the translation). Lean checks it.
import Derived.Test.YtgkfmaiepjjgkaaProg
import Derived.Below
import Derived.Deep.Draws
import Derived.Deep.AppendLies
import Derived.Maps.AppendAt
import Derived.OwnWalk
import Derived.Laws.BytesArg
import Derived.Laws.MakeOwn
import Derived.Laws.OwnMore
import Derived.Deep.OwnRows
import Derived.Tactics
import Derived.Lib.ConvBytes
import Derived.Laws.Slices
import Derived.WalkKit
import Derived.KernelRfl
import Derived.RowKit3
import Derived.Deep.LoopGhost
import Derived.Deep.QuietTactic
import Derived.BigQuiet
import Derived.WideLaws
import Derived.Deep.DeepCutAuto
import Derived.Deep.CutBlock
import Derived.Deep.RegionHeld3
import Derived.Laws.Rows
import Derived.Lib.AppendStr
import Derived.ArgAppend
import Derived.Laws.IdiomCopy
import Derived.OrdersHeld
import Derived.Laws.BitsLemmas
import Derived.RowKit
import Derived.ScopeJumps
import Derived.WalkMore
import Derived.Test.YtgkfmaiepjjgkaaWWords
import Derived.Test.YtgkfmaiepjjgkaaWLast
import Derived.Test.YtgkfmaiepjjgkaaWTab
import Derived.Test.YtgkfmaiepjjgkaaWFour
import Derived.Test.YtgkfmaiepjjgkaaWQPut
import Derived.Test.YtgkfmaiepjjgkaaWApart
import Derived.Test.YtgkfmaiepjjgkaaWArr
import Derived.Test.YtgkfmaiepjjgkaaWZeros
import Derived.Test.YtgkfmaiepjjgkaaWFoot
import Derived.Test.YtgkfmaiepjjgkaaWKept
import Derived.Test.YtgkfmaiepjjgkaaWShare
import Derived.Test.YtgkfmaiepjjgkaaWN
import Derived.Test.YtgkfmaiepjjgkaaWFootNe
import Derived.Test.YtgkfmaiepjjgkaaWAt
import Derived.Test.YtgkfmaiepjjgkaaWEqStruct
import Derived.Test.YtgkfmaiepjjgkaaWRepsOne
import Derived.Test.YtgkfmaiepjjgkaaWInv
import Derived.Test.YtgkfmaiepjjgkaaWInvWords
import Derived.Test.YtgkfmaiepjjgkaaWGuard
import Derived.Test.YtgkfmaiepjjgkaaWNEv
import Derived.Test.YtgkfmaiepjjgkaaWMore
namespace Go.Proofs.Ytgkfmaiepjjgkaa.QWireChunks
open Go.RowKit Go.Proofs.YtgkfmaiepjjgkaaW.PrintWords Go.Proofs.YtgkfmaiepjjgkaaW.PrintLast Go.Proofs.YtgkfmaiepjjgkaaW.PrintMore
attribute [local go_sem] max2_int min2_int max_two min_two max_three min_three max_four min_four   -- for this text's walks alone
set_option linter.unusedVariables false
set_option linter.unusedSimpArgs false



def errW : Option Int → Value
  | none => .nilIface
  | some c => .iface 0 (.int .i64 c)
theorem errW_none : errW none = .nilIface := rfl
theorem errW_some (c : Int) : errW (some c) = .iface 0 (.int .i64 c) := rfl

theorem setCell_dn (w : World) (n : Nat) (p : Addr) (v : Value) : (w.drewN n).setCell p v = (w.setCell p v).drewN n := rfl
theorem own_cut (A : Option Addr) (n l c l2 c2 : Nat) : (Value.slice (A.map (·.add n)) l c).ownBlock = (Value.slice A l2 c2).ownBlock := by
  cases A with
  | none => rfl
  | some a => exact congrArg some (by unfold Addr.add; split <;> rfl)
theorem info5 : (Try.prog.info? 5).map (fun i => (i.zero, i.size, i.bytes)) = some (some (.int .u8 0), 1, 1) := by kernel_rfl
theorem info9 : (Try.prog.info? 9).map (fun i => (i.zero, i.size, i.bytes)) = some (some (.string ⟨#[]⟩), 1, 16) := by kernel_rfl
-- the values' own types

end Go.Proofs.Ytgkfmaiepjjgkaa.QWireChunks
