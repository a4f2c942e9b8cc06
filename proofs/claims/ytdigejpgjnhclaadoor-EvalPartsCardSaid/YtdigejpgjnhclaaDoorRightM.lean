/- Raw things as modes. Conditions: none. -/
import Derived.Test.YtdigejpgjnhclaaDoorPick
namespace Go.Proofs.YtdigejpgjnhclaaDoor.Vm
open Go Go.RowKit
set_option linter.unusedVariables false
set_option linter.unusedSimpArgs false
attribute [local irreducible] Ops Dr Run
end Go.Proofs.YtdigejpgjnhclaaDoor.Vm
