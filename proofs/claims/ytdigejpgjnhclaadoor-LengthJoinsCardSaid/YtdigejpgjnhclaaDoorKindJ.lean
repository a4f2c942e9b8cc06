/- A heap's first expression, its columns; a column that is missing. Conditions: what utf8.ValidString answers. -/
import Derived.Test.YtdigejpgjnhclaaDoorKindI
import Derived.Test.YtdigejpgjnhclaaDoorLoose
namespace Go.Proofs.YtdigejpgjnhclaaDoor.Vm
open Go Go.RowKit Go.Lib
set_option linter.unusedVariables false
set_option linter.unusedSimpArgs false
attribute [local irreducible] Ops Dr Run
variable {g : Nat → Option (List PV)}
/-- The columns that a heap has. -/
def colsH (rs : List Rw) : List Kol := colsP (rs.take ((rs.length : Int) % 4).toNat)
end Go.Proofs.YtdigejpgjnhclaaDoor.Vm
