/- Raw things: their texts as entries. Conditions: none. -/
import Derived.Test.YthpenjbpaegpgaaDoorRightS
import Derived.Test.YthpenjbpaegpgaaDoorRollJ
namespace Go.Proofs.YthpenjbpaegpgaaDoor.Vm
open Go Go.RowKit
set_option linter.unusedVariables false
set_option linter.unusedSimpArgs false
attribute [local irreducible] Ops Dr Run
/-- The bytes of a text. -/
def btl (b : ByteArray) : List Int := b.data.toList.map fun c => (c.toNat : Int)
theorem bys_btl (b : ByteArray) : bys (btl b) = .lst 1 (byts b) := by simp [bys, btl, byts, Function.comp_def]
theorem btl_len (b : ByteArray) : (btl b).length = b.size := by simp [btl]
section
variable {E : Env} {n : Nat} {tm : List (Nat × AV)} {bx : List (Nat × Box)} {ops : Array Oper} {l : List Oper} {d : Tmp} {ty : TypeId} {pos : String} {after : Array Edge}
theorem O.bytesB {Θ : St → Prop} {sr t e : TypeId} {y : Operand} {i ie is : TI} {b : ByteArray} {q : List Int} (hE : E.Ok) (hs0 : E.T sr = some is) (ht : E.T t = some i) (hk : i.desc = .slc e) (he : E.T e = some ie) (hek : ie.desc = .int .u8) (hy : evO E tm y = some (.pv (.str b))) (hq : btl b = q) (hm : b.size ≤ maxLen) (hd : Nat.blt d n = true) (h : Ops E.P E.g ops l ⟨n, (d, .pv (bys q)) :: tm, bx⟩ Θ) :
    Ops E.P E.g ops (⟨some d, .convert sr t y, ty, pos, after, none⟩ :: l) ⟨n, tm, bx⟩ Θ := by
  subst hq
  rw [bys_btl] at h
  exact O.bytes hE hs0 ht hk he hek hy hm hd h
end
/-- The entry that a raw thing makes. -/
def entE (r : Rw) : List Int := btl (r.s.extract 0 (if (12 : Int) < (r.s.size : Int) then (12 : Int) else (r.s.size : Int)).toNat)
theorem entE_len (r : Rw) : (entE r).length ≤ 12 := by
  unfold entE
  rw [btl_len, ByteArray.size_extract]
  split <;> omega
def entsE (rs : List Rw) : List (List Int) := (rs.take 20).map entE
end Go.Proofs.YthpenjbpaegpgaaDoor.Vm
