/- What is cut is no row; what has a byte more is none. Conditions: none beyond the tables of utf8. -/
import Derived.Test.YtalcpfpjkfpmbaaDoorCodeL
namespace Go.Proofs.YtalcpfpjkfpmbaaDoor.Vm
open Go Go.RowKit Go.Lib
set_option linter.unusedVariables false
set_option linter.unusedSimpArgs false
attribute [local irreducible] Ops Dr Run eightU esc turnU oneP encP
variable {g : Nat → Option (List PV)}
theorem enc_more {down : Int} {vs : List Vl} {more : List Int} {j : Nat} {v : Vl} (h : vs[j]? = some v) : (encP down 0 vs ++ more).drop (encP down 0 (vs.take j)).length = (oneP v).map (flipB (dnB down j)) ++ (encP down (j + 1) (vs.drop (j + 1)) ++ more) ∧ (encP down 0 (vs.take (j + 1))).length = (encP down 0 (vs.take j)).length + (oneP v).length := by
  obtain ⟨h1, h2⟩ := enc_at (down := down) h
  refine ⟨?_, h2⟩
  have hle : (encP down 0 (vs.take j)).length ≤ (encP down 0 vs).length := by
    have e : encP down 0 vs = encP down 0 (vs.take j) ++ encP down (0 + (vs.take j).length) (vs.drop j) := by rw [← encP_append, List.take_append_drop]
    rw [e, List.length_append]; omega
  rw [List.drop_append_of_le_length hle, h1, List.append_assoc]
end Go.Proofs.YtalcpfpjkfpmbaaDoor.Vm
