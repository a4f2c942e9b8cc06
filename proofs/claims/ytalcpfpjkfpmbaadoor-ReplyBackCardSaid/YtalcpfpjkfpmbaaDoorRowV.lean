/- Cells that are plain values: what is asked of them. Conditions: none. -/
import Derived.Test.YtalcpfpjkfpmbaaDoorVmEnv
namespace Go.Proofs.YtalcpfpjkfpmbaaDoor.Vm
open Go Go.RowKit
set_option linter.unusedVariables false
set_option linter.unusedSimpArgs false
end Go.Proofs.YtalcpfpjkfpmbaaDoor.Vm
