/- Rolls: what a path to an entry proves. Conditions: the table of steps has 64 words. -/
import Derived.Test.YtokjeodlcilfpaaDoorRollU
namespace Go.Proofs.YtokjeodlcilfpaaDoor.Vm
open Go Go.RowKit
set_option linter.unusedVariables false
set_option linter.unusedSimpArgs false
attribute [local irreducible] Ops Dr Run digP
variable {g : Nat → Option (List PV)}
def pathP (D : Int → List (List Int) → List Int) (Hf : Int → Int) : Nat → List (List Int) → Int → List (List Int)
  | 0, ps, i => []
  | f + 1, ps, i => if ps.length = 1 then [] else if i < Hf ps.length then pathP D Hf f (ps.take (Hf ps.length).toNat) i ++ [rootP D Hf f (ps.drop (Hf ps.length).toNat)] else pathP D Hf f (ps.drop (Hf ps.length).toNat) (i - Hf ps.length) ++ [rootP D Hf f (ps.take (Hf ps.length).toNat)]
end Go.Proofs.YtokjeodlcilfpaaDoor.Vm
