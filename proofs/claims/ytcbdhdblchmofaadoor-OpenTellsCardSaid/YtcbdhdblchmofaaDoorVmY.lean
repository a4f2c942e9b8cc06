/- The value machine, twenty-fourth part: slices cut with their room. Conditions: none. -/
import Derived.Test.YtcbdhdblchmofaaDoorVmX
namespace Go.Proofs.YtcbdhdblchmofaaDoor.Vm
open Go Go.RowKit
set_option linter.unusedVariables false
set_option linter.unusedSimpArgs false
section
variable {P : Program} {g : Nat → Option (List PV)} {s : St}
/-- The first h elements, and no room behind them. -/
theorem OpOk.slice3 {dst : Option Tmp} {t e : TypeId} {y x x' : Operand} {ty : TypeId} {pos : String} {after : Array Edge} {gd : Option (Nat × Bool)} {i ie : TI} {z : AV} {sz : Nat} {xs ys : List PV} {k k' : IntKind} {h : Int}
    (ht : tiOf P t = some i) (hk : i.desc = .slc e) (he : tiOf P e = some ie) (hy : s.ev g y = z) (hl : s.lstOf z = some (sz, xs)) (hsz : sz = ie.size) (hx : s.ev g x = .pv (.int k h)) (hx' : s.ev g x' = .pv (.int k' h))
    (h1 : 0 ≤ h) (h2 : h ≤ xs.length) (hys : xs.take h.toNat = ys) (hd : ∀ t, dst = some t → t < s.n) : OpOk P g ⟨dst, .slice t y none (some x) (some x'), ty, pos, after, gd⟩ s (s.putO dst (.pv (.lst sz ys))) := by
  refine OpOk.val (o := ⟨dst, .slice t y none (some x) (some x'), ty, pos, after, gd⟩) hd (fun cx a w G hP hg hs => ?_)
  have h3 := hs.lst (hs.ev hg y) (by rw [hy]; exact hl)
  generalize hv : a.eval y = v at h3
  have h3' := h3
  have ex : a.eval x = .int k h := by have := hs.ev hg x; rw [hx] at this; exact this.int
  have ex' : a.eval x' = .int k' h := by have := hs.ev hg x'; rw [hx'] at this; exact this.int
  cases h3' with
  | lst _ _ A n c hn hc _ hz h1' hnone hspot hdat hrp =>
    have h4 := RP.slice (l := 0) (h := h.toNat) (m := h.toNat) h3 (by omega) (by omega) (by omega) (by omega)
    rw [List.drop_zero, hys, hsz] at h4
    refine ⟨_, ?_, by rw [hsz]; exact .pv _ _ h4⟩
    have hu := run_underlying (tiOf_slc ht hk) w
    have hs2 := tiOf_size he w
    have et : ((h.toNat : Nat) : Int) = h := Int.toNat_of_nonneg h1
    simp [execOp, Instr.sliceAt, Instr.slice, Instr.sliceBounds, hv, hu, hs2, Sem.run_bind, Result.andThen, hn, ex, ex', run_bound (P := P) (w := w) (k := k') (n := h) (y := c) (code := .slice3Acap) (by omega) (by omega), run_bound (P := P) (w := w) (k := k) (n := h) (y := h.toNat) (code := .slice3B) (by omega) (by omega)]
end
section
variable {E : Env} {n : Nat} {tm : List (Nat × AV)} {bx : List (Nat × Box)} {ops : Array Oper} {l : List Oper} {Θ : St → Prop} {d : Tmp} {ty : TypeId} {pos : String} {after : Array Edge}
theorem O.slice3 {t e : TypeId} {y x x' : Operand} {i ie : TI} {z : AV} {q : Nat × List PV} {ys : List PV} {k k' : IntKind} {m : Int} (hE : E.Ok) (ht : E.T t = some i) (hk : i.desc = .slc e) (he : E.T e = some ie) (hy : evO E tm y = some z) (hl : lstO bx z = some q) (hn : newest bx z) (hsz : q.1 = ie.size) (hx : evO E tm x = some (.pv (.int k m))) (hx' : evO E tm x' = some (.pv (.int k' m)))
    (h1 : 0 ≤ m) (h2 : m ≤ q.2.length) (hys : q.2.take m.toNat = ys) (hd : Nat.blt d n = true) (h : Ops E.P E.g ops l ⟨n, (d, .pv (.lst q.1 ys)) :: tm, bx⟩ Θ) : Ops E.P E.g ops (⟨some d, .slice t y none (some x) (some x'), ty, pos, after, none⟩ :: l) ⟨n, tm, bx⟩ Θ :=
  Ops.op rfl (OpOk.slice3 (hE.t _ _ ht) hk (hE.t _ _ he) (evO_ok hy) (lstO_ok hl hn) hsz (evO_ok hx) (evO_ok hx') h1 h2 hys (dlt hd)) h
end
end Go.Proofs.YtcbdhdblchmofaaDoor.Vm
