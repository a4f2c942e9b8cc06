-- WRITTEN BY mkprint.py, a program of this session (out of the translation). Lean checks it.
import Derived.Test.YtcbdhdblchmofaaDoorProg
import Derived.Below
import Derived.Deep.Draws
import Derived.Deep.AppendLies
import Derived.Maps.AppendAt
import Derived.OwnWalk
import Derived.Laws.BytesArg
import Derived.Laws.MakeOwn
import Derived.Laws.OwnMore
import Derived.Deep.OwnRows
import Derived.Tactics
import Derived.Lib.ConvBytes
import Derived.Laws.Slices
import Derived.WalkKit
import Derived.KernelRfl
import Derived.RowKit3
import Derived.Deep.LoopGhost
import Derived.Deep.QuietTactic
import Derived.BigQuiet
import Derived.WideLaws
import Derived.Deep.DeepCutAuto
import Derived.Deep.CutBlock
import Derived.Deep.RegionHeld3
import Derived.Laws.Rows
import Derived.Lib.AppendStr
import Derived.ArgAppend
import Derived.Laws.IdiomCopy
import Derived.OrdersHeld
import Derived.Laws.BitsLemmas
import Derived.RowKit
import Derived.ScopeJumps
import Derived.WalkMore
import Derived.WalkLawsBesides
import Derived.Test.YtcbdhdblchmofaaDoorWWords
import Derived.Test.YtcbdhdblchmofaaDoorWLast
import Derived.Test.YtcbdhdblchmofaaDoorWTab
import Derived.Test.YtcbdhdblchmofaaDoorWFour
import Derived.Test.YtcbdhdblchmofaaDoorWQPut
import Derived.Test.YtcbdhdblchmofaaDoorWApart
import Derived.Test.YtcbdhdblchmofaaDoorWArr
import Derived.Test.YtcbdhdblchmofaaDoorWZeros
import Derived.Test.YtcbdhdblchmofaaDoorWFoot
import Derived.Test.YtcbdhdblchmofaaDoorWKept
import Derived.Test.YtcbdhdblchmofaaDoorWShare
import Derived.Test.YtcbdhdblchmofaaDoorWN
import Derived.Test.YtcbdhdblchmofaaDoorWFootNe
import Derived.Test.YtcbdhdblchmofaaDoorWAt
import Derived.Test.YtcbdhdblchmofaaDoorWEqStruct
import Derived.Test.YtcbdhdblchmofaaDoorWRepsOne
import Derived.Test.YtcbdhdblchmofaaDoorWInv
import Derived.Test.YtcbdhdblchmofaaDoorWInvWords
import Derived.Test.YtcbdhdblchmofaaDoorWGuard
import Derived.Test.YtcbdhdblchmofaaDoorWNEv
import Derived.Test.YtcbdhdblchmofaaDoorWMore
namespace Go.Proofs.YtcbdhdblchmofaaDoor.QOrderTurns
open Go.RowKit Go.Proofs.YtcbdhdblchmofaaDoorW.PrintWords Go.Proofs.YtcbdhdblchmofaaDoorW.PrintLast Go.Proofs.YtcbdhdblchmofaaDoorW.PrintMore
attribute [local go_sem] max2_int min2_int max_two min_two max_three min_three max_four min_four   -- for this text's walks alone
set_option linter.unusedVariables false
set_option linter.unusedSimpArgs false



def errW : Option Int → Value
  | none => .nilIface
  | some c => .iface 0 (.int .i64 c)
theorem errW_none : errW none = .nilIface := rfl
theorem errW_some (c : Int) : errW (some c) = .iface 0 (.int .i64 c) := rfl

theorem setCell_dn (w : World) (n : Nat) (p : Addr) (v : Value) : (w.drewN n).setCell p v = (w.setCell p v).drewN n := rfl
theorem conv_len_ {P : Program} {t s : TypeId} {A : Option Addr} {n m c : Nat} {w : World} {r : Result Value} (e : n = m) (h : (convert t s (.slice A n c)).run P w = r) : (convert t s (.slice A m c)).run P w = r := e ▸ h
theorem C_len_ {α : Type} {Rr : α → List Value → Prop} {s : Nat} {w : World} {A : Option Addr} {n m : Nat} {xs : List α} (e : n = m) (h : ReadsRow Rr s w A n xs) : ReadsRow Rr s w A m xs := e ▸ h
theorem own_cut (A : Option Addr) (n l c l2 c2 : Nat) : (Value.slice (A.map (·.add n)) l c).ownBlock = (Value.slice A l2 c2).ownBlock := by
  cases A with
  | none => rfl
  | some a => exact congrArg some (by unfold Addr.add; split <;> rfl)
theorem cut_to3 {P : Program} (t e : TypeId) (kh : IntKind) {i : TypeInfo} (ht : P.underlying t = some (.slice e)) (hi : P.info? e = some i) (A : Option Addr) (n c : Nat) (j : Int) (h0 : 0 ≤ j) (hm : j ≤ n) (hc : n ≤ c) :
    ∀ W : World, (Instr.slice t (.slice A n c) none (some (.int kh j)) (some (.int kh j))).run P W = .ok (.slice A j.toNat j.toNat) W := by
  intro W
  have hel : P.elem t = e := by simp [Program.elem, ht]
  have hu : P.underlying t = some (.slice (P.elem t)) := by rw [hel]; exact ht
  have ha : (A.map fun x => x.add 0) = A := by cases A <;> simp [Addr.add]
  rw [run_slice_hm W t A n c hu kh kh j j h0 (Int.le_refl _) (by omega), hel]
  simp [sizeOf, typeInfo, hi, sliced, Result.andThen, ha]
@[go_sem] theorem my_float64frombits (a : Int) (w : World) : (callFunc 74 #[.int .u64 a]).run Tryd.prog w = .ok (.value (.float .f64 a.toNat)) w := by
  rw [run_callFunc_extern Tryd.func74 (by kernel_rfl) (by kernel_rfl) (by kernel_rfl) (e := Extern.MathFloatBits.float64frombits) (by kernel_rfl)]; rfl
@[go_sem] theorem my_float64bits (a : Nat) (w : World) : (callFunc 80 #[.float .f64 a]).run Tryd.prog w = .ok (.value (.int .u64 (a : Int))) w := by
  rw [run_callFunc_extern Tryd.func80 (by kernel_rfl) (by kernel_rfl) (by kernel_rfl) (e := Extern.MathFloatBits.float64bits) (by kernel_rfl)]; rfl
theorem conv_run {P : Program} {o : Oper} {a : Act} {W : World} {e : TypeId} (src dst : TypeId) (x : Operand) (ho : o.op = .convert src dst x) (s : ByteArray) (hx : a.eval x = .string s) {u : TypeDesc} (hs : P.underlying src = some u) (ht : P.underlying dst = some (.slice e)) (he : P.underlying e = some (.int .u8)) :
    (execOp a.eval o).run P W = .ok (.value (.slice (some ⟨W.heap.size, 0, none⟩) s.size (grownCap W s.size 0 e))) (Lib.bytesWorld W e s) := by
  have h := Lib.run_convert_string_bytes W src dst e s hs ht he
  unfold execOp
  simp [ho, hx, h, Result.andThen]
theorem conv_V (W : World) (base : Nat) (e : TypeId) (s : ByteArray) (hm : s.size ≤ 9223372036854775807) : Kd.V (Kd.int .u8) e (Lib.bytesWorld W e s) base (fun k_ => W.heap.size ≤ k_) (.slice (some ⟨W.heap.size, 0, none⟩) s.size (grownCap W s.size 0 e)) (bytesOf s) := by
  have hl : (bytesOf s).length = s.size := bytesOf_length s
  refine ⟨some ⟨W.heap.size, 0, none⟩, grownCap W s.size 0 e, by rw [hl], by rw [hl]; exact grownCap_ge _ _ _ _, fun W2 hW => ?_⟩
  rw [hl]
  obtain ⟨h1, h2, h3⟩ := bytes_reads W e s hm
  have hr : ReadsInt W2 .u8 (some ⟨W.heap.size, 0, none⟩) s.size (bytesOf s) := ⟨h1, h2, fun hp => by
    obtain ⟨ad, e1, hc⟩ := h3 hp
    refine ⟨ad, e1, fun j hj => ?_⟩
    rw [← hc j hj]
    injection e1 with e1
    subst e1
    refine World.cell?_of_block ?_
    rw [add_plain]
    exact hW W.heap.size (Nat.le_refl _) (by rw [Lib.bytesWorld_size]; omega)⟩
  exact Kd.C_of_reads (d := (0 : Int)) (h1 := fun _ => rfl) hr
theorem V_conv {P : Program} {ops : Array Oper} {Q : Exit → Act → World → Prop} {o : Oper} {rest : List Oper} {a : Act} {w0 W : World} (base e : Nat) (hgd : o.guard = none) {N : Tmp} (hd : o.dst = some N) (src dst : TypeId) (x : Operand) (ho : o.op = .convert src dst x) (s : ByteArray) (hx : a.eval x = .string s) {u : TypeDesc} (hs : P.underlying src = some u) (ht : P.underlying dst = some (.slice e)) (he : P.underlying e = some (.int .u8)) (hm : s.size ≤ 9223372036854775807) (HB : Below base w0 W) (hbase : base ≤ W.heap.size)
    (h : ∀ v1 w1, Kd.V (Kd.int .u8) e w1 base (fun k_ => W.heap.size ≤ k_) v1 (bytesOf s) → Below base w0 w1 → W.grownBy w1 none → (∃ b, v1.ownBlock = some b ∧ W.heap.size ≤ b) → wpList P ops Q rest (a.put o.dst v1) w1) : wpList P ops Q (o :: rest) a W :=
  Kd.event_run hgd (conv_run src dst x ho s hx hs ht he) (h _ _ (conv_V W base e s hm) (bytes_below HB hbase e s) ⟨rfl, rfl, rfl, by rw [Lib.bytesWorld_size]; omega, fun k hk _ => Lib.bytesWorld_at_old W e s k hk⟩ ⟨W.heap.size, rfl, Nat.le_refl _⟩)
theorem V_convS {P : Program} {ops : Array Oper} {Q : Exit → Act → World → Prop} {o : Oper} {a : Act} {Kc : Act → World → Prop} {w0 W : World} (base e : Nat) (hw : Region.wanted o (yielded ops a.tmps) = true) {N : Tmp} (hd : o.dst = some N) (src dst : TypeId) (x : Operand) (ho : o.op = .convert src dst x) (s : ByteArray) (hx : a.eval x = .string s) {u : TypeDesc} (hs : P.underlying src = some u) (ht : P.underlying dst = some (.slice e)) (he : P.underlying e = some (.int .u8)) (hm : s.size ≤ 9223372036854775807) (HB : Below base w0 W) (hbase : base ≤ W.heap.size)
    (h : ∀ v1 w1, Kd.V (Kd.int .u8) e w1 base (fun k_ => W.heap.size ≤ k_) v1 (bytesOf s) → Below base w0 w1 → W.grownBy w1 none → (∃ b, v1.ownBlock = some b ∧ W.heap.size ≤ b) → Kc (a.put o.dst v1) w1) : if Region.wanted o (yielded ops a.tmps) = true then Oper.wp P o a W Kc Q else Kc (a.put o.dst undef) W :=
  event_step hw (conv_run src dst x ho s hx hs ht he) (h _ _ (conv_V W base e s hm) (bytes_below HB hbase e s) ⟨rfl, rfl, rfl, by rw [Lib.bytesWorld_size]; omega, fun k hk _ => Lib.bytesWorld_at_old W e s k hk⟩ ⟨W.heap.size, rfl, Nat.le_refl _⟩)
theorem info5 : (Tryd.prog.info? 5).map (fun i => (i.zero, i.size, i.bytes)) = some (some (.int .u8 0), 1, 1) := by kernel_rfl
-- the values' own types

end Go.Proofs.YtcbdhdblchmofaaDoor.QOrderTurns
