/- The table of SHA-256's steps, as the program's memory holds it. Conditions: none beyond the card's. -/
import Derived.Test.YthpenjbpaegpgaaDoorVmEnv
import Derived.Test.YthpenjbpaegpgaaDoorRows
import Derived.Test.YthpenjbpaegpgaaDoorTie
import Derived.Lib.LaidIn
import Derived.Lib.LaidU8
namespace Go.Proofs.YthpenjbpaegpgaaDoor.Vm
open Go Go.RowKit Go.Lib
def stepsL : List Int := [1116352408, 1899447441, 3049323471, 3921009573, 961987163, 1508970993, 2453635748, 2870763221, 3624381080, 310598401, 607225278, 1426881987, 1925078388, 2162078206, 2614888103, 3248222580, 3835390401, 4022224774, 264347078, 604807628, 770255983, 1249150122, 1555081692, 1996064986, 2554220882, 2821834349, 2952996808, 3210313671, 3336571891, 3584528711, 113926993, 338241895, 666307205, 773529912, 1294757372, 1396182291, 1695183700, 1986661051, 2177026350, 2456956037, 2730485921, 2820302411, 3259730800, 3345764771, 3516065817, 3600352804, 4094571909, 275423344, 430227734, 506948616, 659060556, 883997877, 958139571, 1322822218, 1537002063, 1747873779, 1955562222, 2024104815, 2227730452, 2361852424, 2428436474, 2756734187, 3204031479, 3329325298]
theorem steps_len : stepsL.length = 64 := rfl
set_option maxRecDepth 100000 in
theorem steps_laid : (Rows.laid_chirograph_sum_steps : DataW Unit) = tabData .u32 stepsL := by rfl
theorem steps_read {W : World} (h : VarReads Tryd.prog W "chirograph/sum.steps" Rows.laid_chirograph_sum_steps) : ∀ (i : Nat) z, stepsL[i]? = some z → W.cell? ⟨0, i, none⟩ = some (.int .u32 z) := by
  intro i z hz
  obtain ⟨g, t, cs, fuel, p, hg, hty, hvar, hd⟩ := h
  obtain rfl := Option.some.inj ((show Tryd.prog.globalNamed "chirograph/sum.steps" = some 0 by kernel_rfl).symm.trans hg)
  obtain rfl := Option.some.inj ((show (Tryd.prog.globals[0]?).map (·.type) = some 75 by kernel_rfl).symm.trans hty)
  rw [steps_laid] at hd
  have hcs := cells_of_tab Tryd.underlying75 Tryd.underlying67 (by kernel_rfl) (by kernel_rfl) hd
  rw [World.var?_cell hg hvar i, ← Array.getElem?_toList, hcs, List.getElem?_map, hz]
  rfl
end Go.Proofs.YthpenjbpaegpgaaDoor.Vm
