/- Sorts of expressions: what may stand where, what is joined. Conditions: none. -/
import Derived.Test.YtdigejpgjnhclaaDoorKindC
namespace Go.Proofs.YtdigejpgjnhclaaDoor.Vm
open Go Go.RowKit Go.Lib
set_option linter.unusedVariables false
set_option linter.unusedSimpArgs false
attribute [local irreducible] Ops Dr Run
section
variable {P : Program} {g : Gb} {s : St}
end
section
variable {E : Env} {n : Nat} {tm : List (Nat × AV)} {bx : List (Nat × Box)} {ops : Array Oper} {l : List Oper} {d : Tmp} {ty : TypeId} {pos : String} {after : Array Edge}
end
variable {g : Nat → Option (List PV)}
end Go.Proofs.YtdigejpgjnhclaaDoor.Vm
