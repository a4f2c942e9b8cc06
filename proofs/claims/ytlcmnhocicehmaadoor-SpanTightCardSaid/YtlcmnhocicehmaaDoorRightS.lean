/- Raw things: the first of them. Conditions: none. -/
import Derived.Test.YtlcmnhocicehmaaDoorPick
namespace Go.Proofs.YtlcmnhocicehmaaDoor.Vm
open Go Go.RowKit
set_option linter.unusedVariables false
set_option linter.unusedSimpArgs false
attribute [local irreducible] Ops Dr Run
/-- A raw thing: three numbers and a text. -/
structure Rw where
  kd : Int
  a : Int
  b : Int
  s : ByteArray
abbrev rawE (r : Rw) : PV := .agg [.int .i64 r.kd, .int .i64 r.a, .int .i64 r.b, .str r.s]
theorem fnSome {g : Nat → Option (List PV)} {rs : List Rw} {m : Int} (hm : 0 ≤ m ∧ m ≤ 1000) (hl : (rs.length : Int) ≤ 9223372036854775807) : FnC (En Tryd.prog g) 11 [.pv (.lst 4 (rs.map rawE)), .pv (.int .i64 m)] (.pv (.lst 4 ((rs.take m.toNat).map rawE))) [] := by
  have hE := EnOk g
  have hmap : (rs.map rawE).length = rs.length := by simp
  obtain ⟨M, hM⟩ : ∃ M : Int, (if m < (rs.length : Int) then m else (rs.length : Int)) = M := ⟨_, rfl⟩
  have hM0 : 0 ≤ M ∧ M ≤ rs.length ∧ rs.take M.toNat = rs.take m.toNat := by
    split at hM
    · subst hM; exact ⟨by omega, by omega, rfl⟩
    · subst hM
      refine ⟨by omega, by omega, ?_⟩
      rw [Int.toNat_natCast, List.take_length, List.take_of_length_le (by omega)]
  have hys : ((rs.map rawE).take M.toNat).drop (0 : Int).toNat = (rs.take m.toNat).map rawE := by rw [← hM0.2.2, List.map_take]; rfl
  refine FnC.of Tryd.func11 rfl rfl rfl rfl ?_
  repeat (first | refine Run.seq ?_ | refine Run.skip ?_ | refine Run.block ?_)
  refine Run.region ?_
  refine O.assign rfl rfl ?_
  refine O.nil ?_
  try refine Run.keep [0,1,4] rfl rfl ?_
  repeat (first | refine Run.seq ?_ | refine Run.skip ?_ | refine Run.block ?_)
  refine Run.region ?_
  refine O.move rfl rfl ?_
  refine O.move rfl rfl ?_
  first | refine O.lenN hE T22 rfl rfl rfl (by first | exact newest_pv | exact newest_gl rfl rfl | trivial) lenC rfl ?_ | refine O.lenLst hE T22 rfl rfl rfl (by first | exact newest_pv | exact newest_gl rfl rfl | trivial) rfl ?_
  refine O.move rfl rfl ?_
  refine O.minI rfl rfl hM rfl ?_
  refine O.slice hE T22 rfl T31 rfl rfl newest_pv rfl rfl rfl (by omega) (by omega) (by rw [hmap]; omega) hys rfl ?_
  refine O.assign rfl rfl ?_
  refine O.nil ?_
  try refine Run.keep [0,1,4] rfl rfl ?_
  (repeat (first | refine Run.seq ?_ | refine Run.skip ?_)); (try refine Run.ret ?_); first | exact Ends.flat hE (.inr rfl) rfl rfl (AVle.of_eq rfl) rfl | exact Ends.flat hE (.inl rfl) rfl rfl (AVle.of_eq rfl) rfl
end Go.Proofs.YtlcmnhocicehmaaDoor.Vm
