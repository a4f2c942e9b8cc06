/- The kind of an expression: kinds.of, Of. Conditions: what utf8.ValidString answers. -/
import Derived.Test.YtdigejpgjnhclaaDoorKindE
namespace Go.Proofs.YtdigejpgjnhclaaDoor.Vm
open Go Go.RowKit Go.Lib
set_option linter.unusedVariables false
set_option linter.unusedSimpArgs false
attribute [local irreducible] Ops Dr Run
variable {g : Nat → Option (List PV)}
end Go.Proofs.YtdigejpgjnhclaaDoor.Vm
