/- Values: what may be, the runes of a cleaned text, the bits of a real. Conditions: none. -/
import Derived.Laws.BitsAllLaws
import Derived.Test.YtlcmnhocicehmaaDoorVmEnv
import Derived.Test.YtlcmnhocicehmaaDoorRunes
namespace Go.Proofs.YtlcmnhocicehmaaDoor.Vm
open Go Go.RowKit Go.Lib
set_option linter.unusedVariables false
set_option linter.unusedSimpArgs false
/-- The word of a real that is a number and not the nought below nought. -/
def FinW (n : Nat) : Prop := n < 18446744073709551616 ∧ n % 9223372036854775808 ≤ 9218868437227405312 ∧ n ≠ 9223372036854775808
/-- A value: kind, number, bits, text. -/
structure Vl where
  kd : Int
  n : Int
  b : Int
  s : ByteArray
abbrev vlA (v : Vl) : AV := .agg [.pv (.int .i64 v.kd), .pv (.int .i64 v.n), .pv (.int .u64 v.b), .pv (.str v.s)]
abbrev vlE (v : Vl) : PV := .agg [.int .i64 v.kd, .int .i64 v.n, .int .u64 v.b, .str v.s]
/-- A value that may be. -/
inductive Good : Vl → Prop
  | null : Good ⟨0, 0, 0, ⟨#[]⟩⟩
  | bool (n : Int) : n = 0 ∨ n = 1 → Good ⟨1, n, 0, ⟨#[]⟩⟩
  | int (n : Int) : -9223372036854775808 ≤ n ∧ n ≤ 9223372036854775807 → Good ⟨2, n, 0, ⟨#[]⟩⟩
  | real (n : Nat) : FinW n → Good ⟨3, 0, (n : Int), ⟨#[]⟩⟩
  | text (s : ByteArray) : s.size ≤ 40 → validD s.data.toList = true → Good ⟨4, 0, 0, s⟩
end Go.Proofs.YtlcmnhocicehmaaDoor.Vm
