/- Columns made of raw things, and the raw things that a heap gives. Conditions: none. -/
import Derived.Test.YtdigejpgjnhclaaDoorKindP
import Derived.Test.YtdigejpgjnhclaaDoorRightS
import Derived.Laws.Strings
namespace Go.Proofs.YtdigejpgjnhclaaDoor.Vm
open Go Go.RowKit Go.Lib
set_option linter.unusedVariables false
set_option linter.unusedSimpArgs false
def nmOf (n : Nat) : ByteArray := ⟨#[UInt8.ofNat n]⟩
theorem nmOf_ok {n : Nat} (h : 97 ≤ n) (h2 : n ≤ 122) : NameOk (nmOf n) := by
  refine ⟨by simp [nmOf, ByteArray.size], by simp [nmOf, ByteArray.size], fun c hc => ?_⟩
  simp only [nmOf, List.mem_singleton] at hc
  subst hc
  have : (UInt8.ofNat n).toNat = n % 256 := rfl
  omega
/-- Columns that may be. -/
structure ColsOk (cs : List Kol) : Prop where
  len : cs.length ≤ 5
  ok : ∀ c ∈ cs, NameOk c.nm ∧ 1 ≤ c.kd ∧ c.kd ≤ 4
  ap : cs.Pairwise fun c d => (c.nm.toList == d.nm.toList) = false
end Go.Proofs.YtdigejpgjnhclaaDoor.Vm
