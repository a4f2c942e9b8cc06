/- SHA-256: a sum under a key that is not longer than a block. Conditions: the table of steps has 64 words. -/
import Derived.Test.YtokjeodlcilfpaaDoorShaE
import Derived.Test.YtokjeodlcilfpaaDoorVmEnv
namespace Go.Proofs.YtokjeodlcilfpaaDoor.Vm
open Go Go.RowKit
set_option linter.unusedVariables false
set_option linter.unusedSimpArgs false
attribute [local irreducible] Ops Dr Run
variable {g : Nat → Option (List PV)}
def padL (q : List Int) : List Int := q ++ List.replicate (64 - q.length) 0
theorem padK {q : List Int} (h : q.length ≤ 64) : setAt (ints .u8 (List.replicate 64 0)) 0 (ints .u8 q) = ints .u8 (padL q) := by
  unfold setAt padL
  rw [ints_len, List.take_zero, List.nil_append, Nat.zero_add, ints_app]
  congr 1
  simp only [ints, List.map_replicate, List.drop_replicate]
def bitX (z c : Int) : Int := IntKind.u8.wrap (BitVec.ofInt IntKind.u8.bits z ^^^ BitVec.ofInt IntKind.u8.bits c).toNat
def xorL (q : List Int) (c : Int) : List Int := (List.range 64).map fun (j : Nat) => bitX ((padL q).getD (0 + (j : Int).toNat) 0) c
def macP (T : List Int → List Int → List Int) (key b : List Int) : List Int :=
  endP T (feedP T (feedP T begin0 (xorL key 92)) (endP T (feedP T (feedP T begin0 (xorL key 54)) b)))
theorem macP_len {T : List Int → List Int → List Int} (q b : List Int) : (macP T q b).length = 32 := by simp [macP, endP]
theorem xor_step {q : List Int} {c : Int} {i : Nat} {out : List Int} (h : out = (List.range 64).map (fun (j : Nat) => if j < i then bitX ((padL q).getD (0 + (j : Int).toNat) 0) c else 0)) : out.set (0 + (i : Int).toNat) (bitX ((padL q).getD (0 + (i : Int).toNat) 0) c) = (List.range 64).map (fun (j : Nat) => if j < i + 1 then bitX ((padL q).getD (0 + (j : Int).toNat) 0) c else 0) := by
  rw [h]
  refine List.ext_getElem (by simp) fun j h1 h2 => ?_
  simp only [List.getElem_set, List.getElem_map, List.getElem_range]
  have : (0 + (i : Int).toNat = j) ↔ i = j := by omega
  simp only [this]
  by_cases e : i = j
  · subst e
    rw [if_pos rfl, if_pos (by omega)]
  · rw [if_neg e]
    by_cases e2 : j < i
    · rw [if_pos e2, if_pos (by omega)]
    · rw [if_neg e2, if_neg (by omega)]
theorem padL_len {q : List Int} (h : q.length ≤ 64) : (padL q).length = 64 := by simp [padL]; omega
theorem endP_len {T : List Int → List Int → List Int} (s : Sm) : (endP T s).length = 32 := by simp [endP]
theorem padL_def (q : List Int) : q ++ List.replicate (64 - q.length) 0 = padL q := rfl
theorem xorL_of {q : List Int} {c : Int} {o : List Int} (h : o = (List.range 64).map (fun (j : Nat) => if j < 64 then bitX ((padL q).getD (0 + (j : Int).toNat) 0) c else 0)) : o = xorL q c := by
  rw [h]
  exact List.map_congr_left fun j hj => by rw [if_pos (List.mem_range.1 hj)]
attribute [local irreducible] xorL padL feedP endP
end Go.Proofs.YtokjeodlcilfpaaDoor.Vm
