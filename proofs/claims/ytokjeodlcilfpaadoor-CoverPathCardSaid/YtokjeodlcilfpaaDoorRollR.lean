/- Rolls: the functions that the tree of a list is made with. Conditions: the table of steps has 64 words. -/
import Derived.Test.YtokjeodlcilfpaaDoorVmEnv
import Derived.Test.YtokjeodlcilfpaaDoorOracD
namespace Go.Proofs.YtokjeodlcilfpaaDoor.Vm
open Go Go.RowKit
set_option linter.unusedVariables false
set_option linter.unusedSimpArgs false
attribute [local irreducible] Ops Dr Run digP
variable {g : Nat → Option (List PV)}
end Go.Proofs.YtokjeodlcilfpaaDoor.Vm
