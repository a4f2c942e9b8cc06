/- CodeJoins: its walk. Conditions: none beyond the tables of utf8. -/
import Derived.Test.YtalcpfpjkfpmbaaDoorCodeG
import Derived.Test.YtalcpfpjkfpmbaaDoorCodeT
namespace Go.Proofs.YtalcpfpjkfpmbaaDoor.Vm
open Go Go.RowKit Go.Lib
set_option linter.unusedVariables false
set_option linter.unusedSimpArgs false
attribute [local irreducible] Ops Dr Run eightU esc turnU oneP encP
variable {g : Nat → Option (List PV)}
section
variable {E : Env} {n : Nat} {tm : List (Nat × AV)} {bx : List (Nat × Box)} {ops : Array Oper} {l : List Oper} {d : Tmp} {ty : TypeId} {pos : String} {after : Array Edge}
theorem O.strEqV {Θ : St → Prop} {t t' : TypeId} {y z : Operand} {s s' : ByteArray} {c : Bool} (hy : evO E tm y = some (.pv (.str s))) (hz : evO E tm z = some (.pv (.str s'))) (hc : (s.toList == s'.toList) = c) (hd : Nat.blt d n = true) (h : Ops E.P E.g ops l ⟨n, (d, .pv (.bool c)) :: tm, bx⟩ Θ) :
    Ops E.P E.g ops (⟨some d, .binOp .eql t y z t', ty, pos, after, none⟩ :: l) ⟨n, tm, bx⟩ Θ := by
  subst hc
  exact O.bin (v := .bool (s.toList == s'.toList)) hy hz rfl rfl rfl rfl hd h
end
theorem nums_byv : ∀ l : List Int, nums (l.map (PV.int .u8)) = some l
  | [] => rfl
  | c :: l => by
    simp only [List.map_cons, nums]
    rw [nums_byv l]
    rfl
end Go.Proofs.YtalcpfpjkfpmbaaDoor.Vm
