/- The tables of utf8, and what utf8.ValidString answers. Conditions: none beyond the tables. -/
import Derived.Test.YtlcmnhocicehmaaDoorCodeC
import Derived.Test.YtlcmnhocicehmaaDoorShelf
namespace Go.Proofs.YtlcmnhocicehmaaDoor.Vm
open Go Go.RowKit Go.Lib
set_option linter.unusedVariables false
set_option linter.unusedSimpArgs false
attribute [local irreducible] Ops Dr Run
/-- The package variables of this program: the two tables of utf8. -/
def gT : Nat → Option (List PV) := tabsG (Tryd.laysValid_ren.g 3) (Tryd.laysValid_ren.g 4)
theorem tabsT {w : World} (h : Glo gT w) : Shelf.Tabs w := tabs_of rfl rfl h
theorem vstr : VStr gT := fun s hs =>
  FnC.kit Tryd.func68 rfl rfl rfl rfl rfl fun w hg => Go.Proofs.Any.utf8_ValidString Tryd.laysValid s w (by omega) (tabsT hg)
end Go.Proofs.YtlcmnhocicehmaaDoor.Vm
