/- Raw things as modes. Conditions: none. -/
import Derived.Test.YtalcpfpjkfpmbaaDoorPick
namespace Go.Proofs.YtalcpfpjkfpmbaaDoor.Vm
open Go Go.RowKit
set_option linter.unusedVariables false
set_option linter.unusedSimpArgs false
attribute [local irreducible] Ops Dr Run
end Go.Proofs.YtalcpfpjkfpmbaaDoor.Vm
