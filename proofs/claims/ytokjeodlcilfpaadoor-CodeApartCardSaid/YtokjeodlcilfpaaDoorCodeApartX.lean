/- CodeApart: its walk, joined. Conditions: none beyond the tables of utf8. -/
import Derived.Test.YtokjeodlcilfpaaDoorCodeApartW
import Derived.Test.YtokjeodlcilfpaaDoorCodeM
import Derived.Test.YtokjeodlcilfpaaDoorCodeJoinsW
namespace Go.Proofs.YtokjeodlcilfpaaDoor.Vm
open Go Go.RowKit Go.Lib
set_option linter.unusedVariables false
set_option linter.unusedSimpArgs false
attribute [local irreducible] Ops Dr Run eightU esc turnU oneP encP
theorem fnCodeApart {rs : List Rw} (down cut : Int) (hl : (rs.length : Int) ≤ 9223372036854775807) (hr : ∀ r ∈ rs, RwOk r) : FnC (En Tryd.prog gT) 9 [.pv (.lst 4 (rs.map rawE)), .pv (.int .i64 down), .pv (.int .i64 cut)] (.pv (.bool true)) [] := by
  obtain ⟨vs, hvl, hg, c1⟩ := vals_ex (g := gT) hl hr
  have c2 := fnEncode vstr hvl hg down
  have c5 := fnDecodeMore (z := 7) hvl hg (fun v hv => read_good (hg v hv)) down
  have c6 := fnCodeTells vstr
  have hb := encP_len (down := down) 0 vs hg
  have hM : ∃ M : Int, (if (1 : Int) > ((encP down 0 vs).length : Int) then 1 else ((encP down 0 vs).length : Int)) = M ∧ 0 < M ∧ M ≤ 415 + 1 ∧ ((encP down 0 vs).length ≠ 0 → M = (encP down 0 vs).length) := by
    refine ⟨_, rfl, ?_, ?_, ?_⟩
    · split <;> omega
    · split <;> omega
    · intro h; split <;> omega
  obtain ⟨M, hM, hM0, hM1, hM2⟩ := hM
  have c3 := fnPick (g := gT) (a := cut) (m := M) hM0 (by omega)
  have hk0 : 0 ≤ cut % M := Int.emod_nonneg _ (by omega)
  have hk1 : cut % M < M := Int.emod_lt_of_pos _ hM0
  by_cases h : (encP down 0 vs).length = 0
  · have h0 : encP down 0 vs = [] := List.length_eq_zero_iff.1 h
    have c4 := fnDecode hvl hg (fun v hv => read_good (hg v hv)) down
    rw [h0] at c2 c4 c5 hM
    exact apart_walk (b := []) hvl (by simp) c1 c2 hM c3 hk0 hk1 (by rw [List.take_nil]; exact c4) (.inl rfl) c5 c6
  · have hlt : (cut % M).toNat < (encP down 0 vs).length := by have := hM2 h; omega
    have c4 := fnDecodeCut hvl hg (fun v hv => read_good (hg v hv)) (fun v hv => cut_good (hg v hv)) down hlt
    exact apart_walk hvl (by omega) c1 c2 hM c3 hk0 hk1 c4 (.inr ⟨fun e => h (by rw [e]; rfl), rfl⟩) c5 c6
end Go.Proofs.YtokjeodlcilfpaaDoor.Vm
