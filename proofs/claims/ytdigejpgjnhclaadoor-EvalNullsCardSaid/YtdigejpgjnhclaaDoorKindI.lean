/- Heaps of raw things: an expression of a kind is made. Conditions: none. -/
import Derived.Test.YtdigejpgjnhclaaDoorKindH
namespace Go.Proofs.YtdigejpgjnhclaaDoor.Vm
open Go Go.RowKit Go.Lib
set_option linter.unusedVariables false
set_option linter.unusedSimpArgs false
attribute [local irreducible] Ops Dr Run
variable {g : Nat → Option (List PV)}
end Go.Proofs.YtdigejpgjnhclaaDoor.Vm
