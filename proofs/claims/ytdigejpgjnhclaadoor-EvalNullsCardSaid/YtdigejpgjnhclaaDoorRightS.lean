/- Raw things: the first of them. Conditions: none. -/
import Derived.Test.YtdigejpgjnhclaaDoorRightM
namespace Go.Proofs.YtdigejpgjnhclaaDoor.Vm
open Go Go.RowKit
set_option linter.unusedVariables false
set_option linter.unusedSimpArgs false
attribute [local irreducible] Ops Dr Run
/-- A raw thing: three numbers and a text. -/
structure Rw where
  kd : Int
  a : Int
  b : Int
  s : ByteArray
end Go.Proofs.YtdigejpgjnhclaaDoor.Vm
