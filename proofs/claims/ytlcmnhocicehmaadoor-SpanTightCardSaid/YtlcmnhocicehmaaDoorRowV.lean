/- Cells that are plain values: what is asked of them. Conditions: none. -/
import Derived.Test.YtlcmnhocicehmaaDoorVmEnv
namespace Go.Proofs.YtlcmnhocicehmaaDoor.Vm
open Go Go.RowKit
set_option linter.unusedVariables false
set_option linter.unusedSimpArgs false
theorem mens2_pvs {bx : List (Nat × Box)} : ∀ l : List PV, mens2 bx (l.map AV.pv) = true
  | [] => rfl
  | x :: l => by
    show (men2 bx (.pv x) && mens2 bx (l.map AV.pv)) = true
    rw [mens2_pvs l]; rfl
theorem ds1_pvs : ∀ l : List PV, ds1 (l.map AV.pv) = true
  | [] => rfl
  | x :: l => by
    show (d1 (.pv x) && ds1 (l.map AV.pv)) = true
    rw [ds1_pvs l]; rfl
theorem mens1_pvs {bx : List (Nat × Box)} : ∀ l : List PV, mens1 bx (l.map AV.pv) = true
  | [] => rfl
  | x :: l => by
    show (men1 bx (.pv x) && mens1 bx (l.map AV.pv)) = true
    rw [mens1_pvs l]; rfl
theorem ds0_pvs : ∀ l : List PV, ds0 (l.map AV.pv) = true
  | [] => rfl
  | x :: l => by
    show (d0 (.pv x) && ds0 (l.map AV.pv)) = true
    rw [ds0_pvs l]; rfl
end Go.Proofs.YtlcmnhocicehmaaDoor.Vm
