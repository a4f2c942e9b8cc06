/- Raw things as modes. Conditions: none. -/
import Derived.Test.YtokjeodlcilfpaaDoorPick
namespace Go.Proofs.YtokjeodlcilfpaaDoor.Vm
open Go Go.RowKit
set_option linter.unusedVariables false
set_option linter.unusedSimpArgs false
attribute [local irreducible] Ops Dr Run
theorem fnModeOf {g : Nat → Option (List PV)} (n : Int) : FnC (En Tryd.prog g) 15 [.pv (.int .i64 n)] (.pv (.int .i64 (1 + n % 2))) [] := by
  have hE := EnOk g
  have c1 := fnPick (g := g) (a := n) (m := 2) (by omega) (by omega)
  have h : 0 ≤ n % 2 ∧ n % 2 < 2 := by omega
  generalize n % 2 = r at *
  refine FnC.of Tryd.func15 rfl rfl rfl rfl ?_
  repeat (first | refine Run.seq ?_ | refine Run.skip ?_ | refine Run.block ?_)
  refine Run.region ?_
  refine O.assign rfl rfl ?_
  refine O.nil ?_
  try refine Run.keep [0, 2] rfl rfl ?_
  repeat (first | refine Run.seq ?_ | refine Run.skip ?_ | refine Run.block ?_)
  refine Run.region ?_
  refine O.move rfl rfl ?_
  refine O.callE c1 rfl (by first | rfl | simp [closed, men3, mens2_app, mens2_ints, mens2, men2, men1, mens1_app, mens1_ints, mens1]) (by first | rfl | simp [d2, ds1_ints, ds1_app, ds1, d1, ds0_app, ds0_ints, ds0, d0]) rfl ?_
  first | refine O.ar rfl rfl rfl (by exact wrap_i64 (by omega) (by omega)) rfl ?_ | refine O.ar rfl rfl rfl rfl rfl ?_
  refine O.assign rfl rfl ?_
  refine O.nil ?_
  try refine Run.keep [0, 2] rfl rfl ?_
  (repeat (first | refine Run.seq ?_ | refine Run.skip ?_)); (try refine Run.ret ?_); first | exact Ends.flat hE (.inr rfl) rfl rfl (AVle.of_eq rfl) rfl | exact Ends.flat hE (.inl rfl) rfl rfl (AVle.of_eq rfl) rfl
theorem mode_ok (n : Int) : 1 + n % 2 = 1 ∨ 1 + n % 2 = 2 := by omega
end Go.Proofs.YtokjeodlcilfpaaDoor.Vm
