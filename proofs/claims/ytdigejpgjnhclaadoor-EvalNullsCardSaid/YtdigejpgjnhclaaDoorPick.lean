/- Slices in a drawn region, the lesser of two numbers, the keep's picked. Conditions: none. -/
import Derived.Test.YtdigejpgjnhclaaDoorVmEnv
namespace Go.Proofs.YtdigejpgjnhclaaDoor.Vm
open Go Go.RowKit
set_option linter.unusedVariables false
set_option linter.unusedSimpArgs false
attribute [local irreducible] Ops Dr Run
section
variable {E : Env} {n : Nat} {tm : List (Nat × AV)} {bx : List (Nat × Box)} {ops : Array Oper} {l : List Oper} {d : Tmp} {ty : TypeId} {pos : String} {after : Array Edge}
end
theorem tmod_pick {a m : Int} (hm : 0 < m) : (a.tmod m < 0 → a.tmod m + m = a % m) ∧ (¬ a.tmod m < 0 → a.tmod m = a % m) := by
  have h1 := Int.emod_nonneg a (show m ≠ 0 by omega)
  have h2 := Int.emod_lt_of_pos a hm
  rw [Int.tmod_eq_emod]
  split <;> omega
theorem fnPick {g : Nat → Option (List PV)} {a m : Int} (h0 : 0 < m) (h1 : m < 4611686018427387904) : FnC (En Tryd.prog g) 16 [.pv (.int .i64 a), .pv (.int .i64 m)] (.pv (.int .i64 (a % m))) [] := by
  have hE := EnOk g
  obtain ⟨p1, p2⟩ := tmod_pick (a := a) h0
  have hlt : a.tmod m < m := Int.tmod_lt_of_pos a h0
  have hgt : -m < a.tmod m := by
    by_cases c : a.tmod m < 0
    · have := p1 c; have := Int.emod_nonneg a (show m ≠ 0 by omega); have := Int.emod_lt_of_pos a h0
      by_cases e : a.tmod m = -m
      · have h3 : a % m = 0 := by omega
        have h4 : a.tmod m = 0 := Int.tmod_eq_zero_of_dvd (Int.dvd_of_emod_eq_zero h3)
        omega
      · omega
    · omega
  refine FnC.of Tryd.func16 rfl rfl rfl rfl ?_
  repeat (first | refine Run.seq ?_ | refine Run.skip ?_ | refine Run.block ?_)
  refine Run.region ?_
  refine O.assign rfl rfl ?_
  refine O.nil ?_
  try refine Run.keep [0, 1, 4, 9] rfl rfl ?_
  repeat (first | refine Run.seq ?_ | refine Run.skip ?_ | refine Run.block ?_)
  refine Run.region ?_
  refine O.move rfl rfl ?_
  refine O.move rfl rfl ?_
  refine O.rem rfl rfl (by omega) rfl ?_
  refine O.assign rfl rfl ?_
  refine O.nil ?_
  try refine Run.keep [0, 1, 4, 9] rfl rfl ?_
  by_cases hc : a.tmod m < 0
  ·
    have e := p1 hc
    repeat (first | refine Run.seq ?_ | refine Run.skip ?_ | refine Run.block ?_)
    refine Run.region ?_
    refine O.move rfl rfl ?_
    first | refine O.cmp rfl rfl rfl (by first | exact dT (by omega) | exact dF (by omega)) rfl ?_ | refine O.cmp rfl rfl rfl rfl rfl ?_
    refine O.nil ?_
    try refine Run.keep [0, 1, 4, 9] rfl rfl ?_
    repeat (first | refine Run.seq ?_ | refine Run.skip ?_)
    first | refine Run.condT rfl rfl ?_ | refine Run.condF rfl rfl ?_ | refine Run.condT rfl (by assumption) ?_ | refine Run.condF rfl (by assumption) ?_
    repeat (first | refine Run.seq ?_ | refine Run.skip ?_ | refine Run.block ?_)
    refine Run.region ?_
    refine O.move rfl rfl ?_
    refine O.move rfl rfl ?_
    first | refine O.ar rfl rfl rfl (by exact wrap_i64 (by omega) (by omega)) rfl ?_ | refine O.ar rfl rfl rfl rfl rfl ?_
    refine O.assign rfl rfl ?_
    refine O.nil ?_
    try refine Run.keep [0, 1, 4, 9] rfl rfl ?_
    repeat (first | refine Run.seq ?_ | refine Run.skip ?_ | refine Run.block ?_)
    refine Run.region ?_
    refine O.move rfl rfl ?_
    refine O.assign rfl rfl ?_
    refine O.nil ?_
    try refine Run.keep [0, 1, 4, 9] rfl rfl ?_
    refine Run.ret ?_
    exact Ends.ex hE (.inr rfl) (.tmp (by rw [← e]; rfl) .nil) rfl rfl
  ·
    have e := p2 hc
    repeat (first | refine Run.seq ?_ | refine Run.skip ?_ | refine Run.block ?_)
    refine Run.region ?_
    refine O.move rfl rfl ?_
    first | refine O.cmp rfl rfl rfl (by first | exact dT (by omega) | exact dF (by omega)) rfl ?_ | refine O.cmp rfl rfl rfl rfl rfl ?_
    refine O.nil ?_
    try refine Run.keep [0, 1, 4, 9] rfl rfl ?_
    repeat (first | refine Run.seq ?_ | refine Run.skip ?_)
    first | refine Run.condT rfl rfl ?_ | refine Run.condF rfl rfl ?_ | refine Run.condT rfl (by assumption) ?_ | refine Run.condF rfl (by assumption) ?_
    repeat (first | refine Run.seq ?_ | refine Run.skip ?_ | refine Run.block ?_)
    refine Run.region ?_
    refine O.move rfl rfl ?_
    refine O.assign rfl rfl ?_
    refine O.nil ?_
    try refine Run.keep [0, 1, 4, 9] rfl rfl ?_
    refine Run.ret ?_
    exact Ends.ex hE (.inr rfl) (.tmp (by rw [← e]; rfl) .nil) rfl rfl
end Go.Proofs.YtdigejpgjnhclaaDoor.Vm
