/- A heap's first expression, its columns; a column that is missing. Conditions: what utf8.ValidString answers. -/
import Derived.Test.YtdigejpgjnhclaaDoorKindI
import Derived.Test.YtdigejpgjnhclaaDoorLoose
namespace Go.Proofs.YtdigejpgjnhclaaDoor.Vm
open Go Go.RowKit Go.Lib
set_option linter.unusedVariables false
set_option linter.unusedSimpArgs false
attribute [local irreducible] Ops Dr Run
variable {g : Nat → Option (List PV)}
/-- The columns that a heap has. -/
def colsH (rs : List Rw) : List Kol := colsP (rs.take ((rs.length : Int) % 4).toNat)
theorem exprOf_ex {rs : List Rw} (hl : (rs.length : Int) ≤ 9223372036854775807) (hr : ∀ r ∈ rs, RwOk r) (kd : Int) : ∃ (x : Xp) (m' : Int), (0 ≤ m' ∧ m' ≤ 100 ∧ Ty (colsH rs) (1 + kd % 4) x ∧ x.dp ≤ 4) ∧
    FnC (En Tryd.prog g) 13 [.pv (.lst 4 (rs.map rawE)), .pv (.int .i64 kd)] (.tup [xA x, .pv (.lst 3 ((colsH rs).map kolE)), .ptr 200 0]) [(200, hpV (rs.take 40) m' (colsH rs))] := by
  have hE := EnOk g
  have c1 := fnHeapOf (g := g) hl
  rw [show colsP (rs.take ((rs.length : Int) % 4).toNat) = colsH rs from rfl] at c1
  have hcs : ColsOk (colsH rs) := colsP_ok _
  have hR : (rs.take 40).length ≤ 40 := by rw [List.length_take]; omega
  have hRr : ∀ r ∈ rs.take 40, RwOk r := fun r h => hr r (List.mem_of_mem_take h)
  have c2 := fnPick (g := g) (a := kd) (m := 4) (by omega) (by omega)
  have hk : 0 ≤ kd % 4 ∧ kd % 4 < 4 := by omega
  generalize kd % 4 = z at *
  obtain ⟨x, m', ⟨a1, a2, a3, a4⟩, cx⟩ := expr_ex (g := g) (rs := rs.take 40) hR hRr hcs 4 4 (by omega) (by omega) (by omega) (1 + z) (by omega) (by omega) 0 (by omega) (by decide)
  refine ⟨x, m', ⟨a1, by have : (2 : Nat) ^ 4 = 16 := rfl; omega, a3, a4⟩, ?_⟩
  clear a3
  generalize rs.take 40 = R at *
  generalize colsH rs = cs at *
  refine FnC.of Tryd.func13 rfl rfl rfl rfl ?_
  repeat (first | refine Run.seq ?_ | refine Run.skip ?_ | refine Run.block ?_)
  refine Run.region ?_
  refine O.alloc hE 4 T28 rfl rfl rfl ?_
  refine O.assign rfl rfl ?_
  refine O.assignN rfl ?_
  refine O.nil ?_
  try refine Run.keep [0,1,4,5,6,7] rfl rfl ?_
  repeat (first | refine Run.seq ?_ | refine Run.skip ?_ | refine Run.block ?_)
  refine Run.region ?_
  refine O.move rfl rfl ?_
  refine O.call (bs' := []) 0 c1 (.cons (AVle.of_eq rfl) .nil) rfl rfl rfl rfl rfl rfl rfl ?_
  refine O.assign rfl rfl ?_
  refine O.nil ?_
  try refine Run.keep [0,1,4,5,6,7] rfl rfl ?_
  repeat (first | refine Run.seq ?_ | refine Run.skip ?_ | refine Run.block ?_)
  refine Run.drawI (Inv := CellIs 200 2 (.pv (.lst 3 (cs.map kolE)))) mixed rfl ⟨_, rfl, rfl⟩ ?_
  refine DrI.step ?_
  refine D.move rfl rfl ?_
  refine Dr.nil ?_
  refine DrI.step ?_
  refine D.move rfl rfl ?_
  refine Dr.nil ?_
  refine DrI.step ?_
  refine D.callE c2 rfl rfl rfl rfl ?_
  refine Dr.nil ?_
  refine DrI.step ?_
  refine D.ar rfl rfl rfl (by exact wrap_i64 (by omega) (by omega)) rfl ?_
  refine Dr.nil ?_
  refine DrI.step ?_
  refine D.lendL (ln := [200]) cx rfl (men_a3 rfl rfl rfl) (by repeat (first | exact BxIn.nil | refine BxIn.cons rfl ?_)) rfl (fun p hp => by rw [List.mem_singleton.1 hp]; rfl) rfl rfl rfl rfl rfl rfl rfl rfl ?_
  refine Dr.nil ?_
  refine DrI.step ?_
  refine D.move rfl rfl ?_
  refine Dr.nil ?_
  refine DrI.step ?_
  refine D.nilK rfl rfl ?_
  refine Dr.nil ?_
  refine DrI.step ?_
  refine D.field hE L60 rfl rfl rfl rfl ?_
  refine Dr.nil ?_
  refine DrI.loadC hE T29 rfl rfl rfl ?_
  refine DrI.step ?_
  refine D.move rfl rfl ?_
  refine Dr.nil ?_
  refine DrI.step ?_
  refine D.store hE T28 rfl rfl rfl rfl rfl rfl ?_
  refine Dr.nil ?_
  refine DrI.step ?_
  refine D.assign rfl rfl ?_
  refine Dr.nil ?_
  refine DrI.step ?_
  refine D.assign rfl rfl ?_
  refine Dr.nil ?_
  refine DrI.nil ?_
  refine ⟨rfl, ?_, ?_⟩
  · repeat (first | exact List.forall_mem_nil _ | refine List.forall_mem_cons.2 ⟨cellIs_app (by first | exact .inl rfl | exact .inr ⟨_, rfl, rfl⟩), ?_⟩)
  refine Run.ret ?_
  exact Ends.of hE (.inr rfl) rfl rfl (SLe.drop (by repeat (first | exact TmIn.nil | refine TmIn.cons rfl ?_)) (by repeat (first | exact BxIn.nil | refine BxIn.cons rfl ?_)) rfl rfl)
end Go.Proofs.YtdigejpgjnhclaaDoor.Vm
