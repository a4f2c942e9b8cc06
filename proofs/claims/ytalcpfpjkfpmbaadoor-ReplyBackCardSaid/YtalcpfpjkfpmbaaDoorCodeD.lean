/- A row read from bytes: the closure that hands out bytes; a null. Conditions: none. -/
import Derived.Test.YtalcpfpjkfpmbaaDoorCodeF
namespace Go.Proofs.YtalcpfpjkfpmbaaDoor.Vm
open Go Go.RowKit Go.Lib
set_option linter.unusedVariables false
set_option linter.unusedSimpArgs false
attribute [local irreducible] Ops Dr Run eightU esc turnU oneP
variable {g : Nat → Option (List PV)}
/-- The boxes of a reader: where it is, the bytes, what each byte is turned by. -/
abbrev bD (b : List Int) (at' : Nat) (fl : Int) : List (Nat × Box) := [(8, .var [.pv (.int .i64 (at' : Int))]), (3, .var [.pv (byv b)]), (9, .var [.pv (.int .u8 fl)])]
abbrev lnD : List Nat := [8, 3, 9]
abbrev cloD : AV := .clo 29 [.ptr 8 0, .ptr 3 0, .ptr 9 0]
theorem fnNext {b : List Int} {p : Nat} {fl c z : Int} (hb : b.length ≤ 9223372036854775807) (hp : b[p]? = some c) (hx : bitI .xor .u8 c fl = some z) :
    FnL (EnL Tryd.prog g lnD) 29 [.ptr 8 0, .ptr 3 0, .ptr 9 0] (bD b p fl) (.tup [.pv (.int .u8 z), .pv (.bool true)]) (bD b (p + 1) fl) := by
  have hE := EnLOk g lnD
  have hpl : p < b.length := (List.getElem?_eq_some_iff.1 hp).1
  have hbm : (b.map (PV.int .u8)).length = b.length := by simp
  have hat : (b.map (PV.int .u8))[(p : Int).toNat]? = some (.int .u8 c) := by rw [Int.toNat_natCast, List.getElem?_map, hp]; rfl
  have hsub : IntKind.i64.wrap ((p : Int) + 1 - 1) = (p : Int) := by rw [wrap_i64 (by omega) (by omega)]; omega
  refine FnL.of Tryd.func29 rfl rfl rfl rfl ?_
  repeat (first | refine Run.seq ?_ | refine Run.skip ?_ | refine Run.block ?_)
  refine Run.region ?_
  refine O.assign rfl rfl ?_
  refine O.assign rfl rfl ?_
  refine O.nil ?_
  try refine Run.keep [0, 1, 2, 3, 4, 8] rfl rfl ?_
  repeat (first | refine Run.seq ?_ | refine Run.skip ?_ | refine Run.block ?_)
  refine Run.region ?_
  first | refine O.loadS hE T3 rfl rfl rfl (by rfl) rfl ?_ | refine O.loadE hE T3 rfl rfl (by rfl) rfl ?_ | refine O.load hE T3 rfl rfl rfl rfl ?_
  first | refine O.loadS hE T27 rfl rfl rfl (by rfl) rfl ?_ | refine O.loadE hE T27 rfl rfl (by rfl) rfl ?_ | refine O.load hE T27 rfl rfl rfl rfl ?_
  first | refine O.lenN hE T27 rfl rfl rfl (by first | exact newest_pv | exact newest_gl rfl rfl | trivial) lenC rfl ?_ | refine O.lenLst hE T27 rfl rfl rfl (by first | exact newest_pv | exact newest_gl rfl rfl | trivial) rfl ?_
  first | refine O.cmp rfl rfl rfl (by first | exact decide_eq_true (by omega) | exact decide_eq_false (by omega)) rfl ?_ | refine O.cmp rfl rfl rfl rfl rfl ?_
  refine O.nil ?_
  try refine Run.keep [0, 1, 2, 3, 4, 8] rfl rfl ?_
  repeat (first | refine Run.seq ?_ | refine Run.skip ?_)
  first | refine Run.condT rfl rfl ?_ | refine Run.condF rfl rfl ?_ | refine Run.condT rfl (by assumption) ?_ | refine Run.condF rfl (by assumption) ?_
  repeat (first | refine Run.seq ?_ | refine Run.skip ?_ | refine Run.block ?_)
  refine Run.region ?_
  first | refine O.loadS hE T3 rfl rfl rfl (by rfl) rfl ?_ | refine O.loadE hE T3 rfl rfl (by rfl) rfl ?_ | refine O.load hE T3 rfl rfl rfl rfl ?_
  first | refine O.ar rfl rfl rfl (by exact wrap_i64 (by omega) (by omega)) rfl ?_ | refine O.ar rfl rfl rfl rfl rfl ?_
  refine O.store hE T3 rfl rfl rfl rfl rfl rfl ?_
  refine O.nil ?_
  try refine Run.keep [0, 1, 2, 3, 4, 8] rfl rfl ?_
  repeat (first | refine Run.seq ?_ | refine Run.skip ?_ | refine Run.block ?_)
  refine Run.draw mixed rfl ?_
  first | refine D.loadS hE T27 rfl rfl rfl (by rfl) rfl ?_ | refine D.loadE hE T27 rfl rfl (by rfl) rfl ?_ | refine D.load hE T27 rfl rfl rfl rfl ?_
  first | refine D.loadS hE T3 rfl rfl rfl (by rfl) rfl ?_ | refine D.loadE hE T3 rfl rfl (by rfl) rfl ?_ | refine D.load hE T3 rfl rfl rfl rfl ?_
  refine D.ar rfl rfl rfl hsub rfl ?_
  refine D.index hE T27 rfl T5 rfl rfl newest_pv rfl (by omega) hat rfl rfl rfl ?_
  first | refine D.loadS hE T5 rfl rfl rfl (by rfl) rfl ?_ | refine D.loadE hE T5 rfl rfl (by rfl) rfl ?_ | refine D.load hE T5 rfl rfl rfl rfl ?_
  first | refine D.loadS hE T5 rfl rfl rfl (by rfl) rfl ?_ | refine D.loadE hE T5 rfl rfl (by rfl) rfl ?_ | refine D.load hE T5 rfl rfl rfl rfl ?_
  refine D.bit rfl rfl hx rfl ?_
  refine D.assign rfl rfl ?_
  refine D.assign rfl rfl ?_
  refine Dr.nil ?_
  refine ⟨rfl, ?_⟩
  try refine Run.keep [0, 1, 2, 3, 4, 8] rfl rfl ?_
  refine Run.ret ?_
  exact Ends.of hE (.inr rfl) rfl rfl (SLe.drop (by repeat (first | exact TmIn.nil | refine TmIn.cons rfl ?_)) (by repeat (first | exact BxIn.nil | refine BxIn.cons rfl ?_)) rfl rfl)
theorem fnNextEnd {b : List Int} {p : Nat} {fl : Int} (hb : b.length ≤ 9223372036854775807) (hp : b.length ≤ p) (hp2 : p ≤ 9223372036854775807) :
    FnL (EnL Tryd.prog g lnD) 29 [.ptr 8 0, .ptr 3 0, .ptr 9 0] (bD b p fl) (.tup [.pv (.int .u8 0), .pv (.bool false)]) (bD b p fl) := by
  have hE := EnLOk g lnD
  have hbm : (b.map (PV.int .u8)).length = b.length := by simp
  refine FnL.of Tryd.func29 rfl rfl rfl rfl ?_
  repeat (first | refine Run.seq ?_ | refine Run.skip ?_ | refine Run.block ?_)
  refine Run.region ?_
  refine O.assign rfl rfl ?_
  refine O.assign rfl rfl ?_
  refine O.nil ?_
  try refine Run.keep [0, 1, 2, 3, 4, 8] rfl rfl ?_
  repeat (first | refine Run.seq ?_ | refine Run.skip ?_ | refine Run.block ?_)
  refine Run.region ?_
  first | refine O.loadS hE T3 rfl rfl rfl (by rfl) rfl ?_ | refine O.loadE hE T3 rfl rfl (by rfl) rfl ?_ | refine O.load hE T3 rfl rfl rfl rfl ?_
  first | refine O.loadS hE T27 rfl rfl rfl (by rfl) rfl ?_ | refine O.loadE hE T27 rfl rfl (by rfl) rfl ?_ | refine O.load hE T27 rfl rfl rfl rfl ?_
  first | refine O.lenN hE T27 rfl rfl rfl (by first | exact newest_pv | exact newest_gl rfl rfl | trivial) lenC rfl ?_ | refine O.lenLst hE T27 rfl rfl rfl (by first | exact newest_pv | exact newest_gl rfl rfl | trivial) rfl ?_
  first | refine O.cmp rfl rfl rfl (by first | exact decide_eq_true (by omega) | exact decide_eq_false (by omega)) rfl ?_ | refine O.cmp rfl rfl rfl rfl rfl ?_
  refine O.nil ?_
  try refine Run.keep [0, 1, 2, 3, 4, 8] rfl rfl ?_
  repeat (first | refine Run.seq ?_ | refine Run.skip ?_)
  first | refine Run.condT rfl rfl ?_ | refine Run.condF rfl rfl ?_ | refine Run.condT rfl (by assumption) ?_ | refine Run.condF rfl (by assumption) ?_
  repeat (first | refine Run.seq ?_ | refine Run.skip ?_ | refine Run.block ?_)
  refine Run.region ?_
  refine O.assign rfl rfl ?_
  refine O.assign rfl rfl ?_
  refine O.nil ?_
  try refine Run.keep [0, 1, 2, 3, 4, 8] rfl rfl ?_
  refine Run.ret ?_
  exact Ends.of hE (.inr rfl) rfl rfl (SLe.drop (by repeat (first | exact TmIn.nil | refine TmIn.cons rfl ?_)) (by repeat (first | exact BxIn.nil | refine BxIn.cons rfl ?_)) rfl rfl)
def flB (B : Bool) : Int := if B then 255 else 0
theorem flip_fin : ∀ (B : Bool) (c : Fin 256), bitI .xor .u8 (flipB B ((c.val : Nat) : Int)) (flB B) = some ((c.val : Nat) : Int) := by decide +kernel
theorem flip_back (B : Bool) {c : Int} (h : 0 ≤ c ∧ c < 256) : bitI .xor .u8 (flipB B c) (flB B) = some c := by
  have := flip_fin B ⟨c.toNat, by omega⟩
  simpa [show ((c.toNat : Nat) : Int) = c by omega] using this
/-- The byte that stands at a place of what is read. -/
theorem read_at {b O rest : List Int} {p i : Nat} {B : Bool} {c : Int} (h : b.drop p = O.map (flipB B) ++ rest) (hc : O[i]? = some c) : b[p + i]? = some (flipB B c) := by
  have h1 : (b.drop p)[i]? = some (flipB B c) := by
    rw [h]
    have hi := (List.getElem?_eq_some_iff.1 hc).1
    rw [List.getElem?_append_left (by simpa using hi), List.getElem?_map, hc]
    rfl
  rwa [List.getElem?_drop] at h1
/-- A value is read as it was written. -/
def ReadOk (g : Nat → Option (List PV)) (v : Vl) : Prop := ∀ (b : List Int) (p : Nat) (B : Bool) (rest : List Int), b.length ≤ 9223372036854775807 → b.drop p = (oneP v).map (flipB B) ++ rest →
  FnL (EnL Tryd.prog g lnD) 30 [cloD] (bD b p (flB B)) (.tup [vlA v, .pv (.int .i64 0)]) (bD b (p + (oneP v).length) (flB B))
theorem read_null : ReadOk g ⟨0, 0, 0, ⟨#[]⟩⟩ := by
  intro b p B rest hb h
  have ho : oneP ⟨0, 0, 0, ⟨#[]⟩⟩ = [1] := by unfold oneP; rfl
  rw [ho] at h ⊢
  have hE := EnLOk g lnD
  have c1 := fnNext (g := g) (b := b) (p := p) (by omega) (read_at (i := 0) h rfl) (flip_back B (by omega))
  show FnL _ _ _ _ (.tup [.agg [.pv (.int .i64 0), .pv (.int .i64 0), .pv (.int .u64 0), .pv (.str ⟨#[]⟩)], .pv (.int .i64 0)]) (bD b (p + 1) (flB B))
  generalize flB B = fl at *
  refine FnL.of Tryd.func30 rfl rfl rfl rfl ?_
  repeat (first | refine Run.seq ?_ | refine Run.skip ?_ | refine Run.block ?_)
  refine Run.region ?_
  refine O.alloc hE 2 T60 rfl rfl rfl ?_
  refine O.assign rfl rfl ?_
  refine O.nil ?_
  try refine Run.keep [0, 2, 3, 4, 5, 6, 7, 8, 9, 10, 11, 12, 13, 20, 27, 29, 32, 40, 45, 48, 49, 56, 66, 74, 82, 89] rfl rfl ?_
  repeat (first | refine Run.seq ?_ | refine Run.skip ?_ | refine Run.block ?_)
  refine Run.region ?_
  refine O.move rfl rfl ?_
  refine O.lend (ln := lnD) c1 rfl rfl rfl (.inl rfl) (by repeat (first | exact BxIn.nil | refine BxIn.cons rfl ?_)) rfl rfl rfl rfl rfl rfl rfl rfl rfl rfl ?_
  refine O.move rfl rfl ?_
  refine O.extract rfl rfl rfl ?_
  refine O.extract rfl rfl rfl ?_
  refine O.assign rfl rfl ?_
  refine O.assign rfl rfl ?_
  refine O.nil ?_
  try refine Run.keep [0, 2, 3, 4, 5, 6, 7, 8, 9, 10, 11, 12, 13, 20, 27, 29, 32, 40, 45, 48, 49, 56, 66, 74, 82, 89] rfl rfl ?_
  repeat (first | refine Run.seq ?_ | refine Run.skip ?_ | refine Run.block ?_)
  refine Run.region ?_
  refine O.move rfl rfl ?_
  refine O.un rfl rfl rfl rfl rfl ?_
  refine O.nil ?_
  try refine Run.keep [0, 2, 3, 4, 5, 6, 7, 8, 9, 10, 11, 12, 13, 20, 27, 29, 32, 40, 45, 48, 49, 56, 66, 74, 82, 89] rfl rfl ?_
  repeat (first | refine Run.seq ?_ | refine Run.skip ?_)
  first | refine Run.condT rfl rfl ?_ | refine Run.condF rfl rfl ?_ | refine Run.condT rfl (by assumption) ?_ | refine Run.condF rfl (by assumption) ?_
  repeat (first | refine Run.seq ?_ | refine Run.skip ?_ | refine Run.block ?_)
  refine Run.region ?_
  refine O.move rfl rfl ?_
  refine O.conv hE T5 T3 rfl rfl rfl ?_
  first | refine O.ar rfl rfl rfl (by exact wrap_i64 (by omega) (by omega)) rfl ?_ | refine O.ar rfl rfl rfl rfl rfl ?_
  refine O.build hE T60 L60 rfl rfl rfl ?_
  refine O.alloc hE 6 T60 rfl rfl rfl ?_
  refine O.store hE T60 rfl rfl rfl rfl rfl rfl ?_
  refine O.nil ?_
  try refine Run.keep [0, 2, 3, 4, 5, 6, 7, 8, 9, 10, 11, 12, 13, 20, 27, 29, 32, 40, 45, 48, 49, 56, 66, 74, 82, 89] rfl rfl ?_
  repeat (first | refine Run.seq ?_ | refine Run.skip ?_ | refine Run.block ?_)
  refine Run.region ?_
  refine O.field hE L60 rfl rfl rfl rfl ?_
  first | refine O.loadS hE T3 rfl rfl rfl (by rfl) rfl ?_ | refine O.loadE hE T3 rfl rfl (by rfl) rfl ?_ | refine O.load hE T3 rfl rfl rfl rfl ?_
  refine O.nil ?_
  try refine Run.keep [0, 2, 3, 4, 5, 6, 7, 8, 9, 10, 11, 12, 13, 20, 27, 29, 32, 40, 45, 48, 49, 56, 66, 74, 82, 89] rfl rfl ?_
  repeat (first | refine Run.seq ?_ | refine Run.skip ?_ | refine Run.block ?_)
  refine Run.region ?_
  first | refine O.cmp rfl rfl rfl (by first | exact decide_eq_true (by omega) | exact decide_eq_false (by omega)) rfl ?_ | refine O.cmp rfl rfl rfl rfl rfl ?_
  refine O.assign rfl rfl ?_
  refine O.nil ?_
  try refine Run.keep [0, 2, 3, 4, 5, 6, 7, 8, 9, 10, 11, 12, 13, 20, 27, 29, 32, 40, 45, 48, 49, 56, 66, 74, 82, 89] rfl rfl ?_
  repeat (first | refine Run.seq ?_ | refine Run.skip ?_)
  first | refine Run.condT rfl rfl ?_ | refine Run.condF rfl rfl ?_ | refine Run.condT rfl (by assumption) ?_ | refine Run.condF rfl (by assumption) ?_
  repeat (first | refine Run.seq ?_ | refine Run.skip ?_ | refine Run.block ?_)
  refine Run.region ?_
  refine O.load hE T60 rfl rfl rfl rfl ?_
  refine O.store hE T60 rfl rfl rfl rfl rfl rfl ?_
  refine O.assign rfl rfl ?_
  refine O.nil ?_
  try refine Run.keep [0, 2, 3, 4, 5, 6, 7, 8, 9, 10, 11, 12, 13, 20, 27, 29, 32, 40, 45, 48, 49, 56, 66, 74, 82, 89] rfl rfl ?_
  refine Run.ret ?_
  repeat (first | refine thenR_ret ?_ | refine roundR_ret ?_ | refine blockR_ret ?_)
  exact Ends.of hE (.inr rfl) rfl rfl (SLe.drop (by repeat (first | exact TmIn.nil | refine TmIn.cons rfl ?_)) (by repeat (first | exact BxIn.nil | refine BxIn.cons rfl ?_)) rfl rfl)
end Go.Proofs.YtalcpfpjkfpmbaaDoor.Vm
