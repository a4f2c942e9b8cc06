/- Rolls: the path to an entry. Conditions: the table of steps has 64 words. -/
import Derived.Test.YtokjeodlcilfpaaDoorRollI
import Derived.Test.YtokjeodlcilfpaaDoorPick
namespace Go.Proofs.YtokjeodlcilfpaaDoor.Vm
open Go Go.RowKit
set_option linter.unusedVariables false
set_option linter.unusedSimpArgs false
attribute [local irreducible] Ops Dr Run digP
variable {g : Nat → Option (List PV)}
section
variable {E : Env} {n : Nat} {tm : List (Nat × AV)} {bx : List (Nat × Box)} {ops : Array Oper} {l : List Oper} {d : Tmp} {ty : TypeId} {pos : String} {after : Array Edge}
theorem D.slice3 {Θ : List Rec → St → Prop} {t e : TypeId} {y x x' : Operand} {i ie : TI} {sz : Nat} {xs ys : List PV} {k k' : IntKind} {m : Int} (hE : E.Ok) (ht : E.T t = some i) (hk : i.desc = .slc e) (he : E.T e = some ie) (hy : evO E tm y = some (.pv (.lst sz xs))) (hsz : sz = ie.size) (hx : evO E tm x = some (.pv (.int k m))) (hx' : evO E tm x' = some (.pv (.int k' m)))
    (h1 : 0 ≤ m) (h2 : m ≤ xs.length) (hys : xs.take m.toNat = ys) (hd : Nat.blt d n = true)
    (h : Dr E.P E.g ops l ⟨n, (d, .pv (.lst sz ys)) :: tm, bx⟩ (fun rs => Θ (⟨rtsOf E tm [y, x, x'], [], [], some d, .pv (.lst sz ys), []⟩ :: rs))) : Dr E.P E.g ops (⟨some d, .slice t y none (some x) (some x'), ty, pos, after, none⟩ :: l) ⟨n, tm, bx⟩ Θ :=
  D.of (rt := rtsOf E tm [y, x, x']) (rb := []) (rts_now _) none_met hd (fun s hs _ hd' => OpOk.slice3 (s := s) (hE.t _ _ ht) hk (hE.t _ _ he) (evO_ok (n := s.n) (bx := s.bx) (rts_ev (by simp) hy hs)) rfl hsz (evO_ok (n := s.n) (bx := s.bx) (rts_ev (by simp) hx hs)) (evO_ok (n := s.n) (bx := s.bx) (rts_ev (by simp) hx' hs)) h1 h2 hys (fun t ht => by obtain rfl := Option.some.inj ht; exact hd')) h
end
end Go.Proofs.YtokjeodlcilfpaaDoor.Vm
