/- Regions whose order is drawn: a call to which boxes are lent beside reads of what the call leaves as it is. Conditions: none. -/
import Derived.Test.YtdigejpgjnhclaaDoorPick
namespace Go.Proofs.YtdigejpgjnhclaaDoor.Vm
open Go Go.RowKit
set_option linter.unusedVariables false
set_option linter.unusedSimpArgs false
section
variable {P : Program} {g : Gb} {s s1 s' : St} {cx : Cx} {a : Act} {w : World} {G : Gh}
theorem OpOk.alike {o : Oper} {s s1 s2 : St} (h : OpOk P g o s s1) (ha : Alike s1 s2) : OpOk P g o s s2 :=
  fun cx a w G hP hg hs K Q hK => h cx a w G hP hg hs K Q fun a' w' G' h' => hK a' w' G' (h'.alike ha)
end
/-- An operation that is as its record says, as long as something holds. -/
inductive RecOkI (P : Program) (g : Gb) (Inv : St → Prop) (ops : Array Oper) (o : Oper) (r : Rec) : Prop
  | old (h : RecOk P g ops o r)
  | loose (hg : o.guard = none) (hd : o.dst = r.d) (h : ∀ s, Inv s → r.Met s → OpOk P g o s (r.app s))
section
variable {P : Program} {g : Gb} {s : St}
end
inductive RecsI (P : Program) (g : Gb) (Inv : St → Prop) (ops : Array Oper) : List Oper → St → List Rec → St → Prop
  | nil (s : St) : RecsI P g Inv ops [] s [] s
  | cons {o : Oper} {l : List Oper} {s s' : St} {r : Rec} {rs : List Rec} (h : RecOkI P g Inv ops o r) (hm : r.Met s) (t : RecsI P g Inv ops l (r.app s) rs s') : RecsI P g Inv ops (o :: l) s (r :: rs) s'
section
variable {P : Program} {g : Gb} {Inv : St → Prop} {ops : Array Oper}
theorem RecsI.get {l : List Oper} {s s' : St} {rs : List Rec} (h : RecsI P g Inv ops l s rs s') : rs.length = l.length ∧ (∀ (i : Nat) o r, l[i]? = some o → rs[i]? = some r → RecOkI P g Inv ops o r) ∧ Canon s rs ∧ ∀ k, stOf (fun _ => true) k rs s = s' := by
  induction h with
  | nil s => exact ⟨rfl, fun i o r h => by simp at h, trivial, fun k => rfl⟩
  | cons h hm t ih =>
    obtain ⟨e1, e2, e3, e4⟩ := ih
    refine ⟨by simp [e1], fun i o r ho hr => ?_, ⟨hm, e3⟩, fun k => ?_⟩
    · cases i with
      | zero => simp at ho hr; subst ho; subst hr; exact h
      | succ i => exact e2 i o r (by simpa using ho) (by simpa using hr)
    · simp only [stOf, if_true]; exact e4 (k + 1)
/-- What is left of such a region. -/
def DrI (P : Program) (g : Gb) (Inv : St → Prop) (ops : Array Oper) (l : List Oper) (s : St) (Θ : List Rec → St → Prop) : Prop := ∃ rs s', RecsI P g Inv ops l s rs s' ∧ Θ rs s'
theorem DrI.nil {s : St} {Θ : List Rec → St → Prop} (h : Θ [] s) : DrI P g Inv ops [] s Θ := ⟨[], s, .nil s, h⟩
theorem DrI.cons {o : Oper} {l : List Oper} {s : St} {r : Rec} {Θ : List Rec → St → Prop} (h : RecOkI P g Inv ops o r) (hm : r.Met s) (t : DrI P g Inv ops l (r.app s) (fun rs => Θ (r :: rs))) : DrI P g Inv ops (o :: l) s Θ :=
  let ⟨rs, s', h1, h2⟩ := t; ⟨r :: rs, s', .cons h hm h1, h2⟩
/-- One operation by a rule of the plain kind. -/
theorem DrI.step {o : Oper} {l : List Oper} {s : St} {Θ : List Rec → St → Prop} (h : Dr P g ops [o] s (fun rs s' => DrI P g Inv ops l s' (fun rs' => Θ (rs ++ rs')))) : DrI P g Inv ops (o :: l) s Θ := by
  obtain ⟨rs, s', h1, rs', s2, h2, h3⟩ := h
  cases h1 with
  | cons h hm t =>
    cases t
    exact ⟨_, s2, .cons (.old h) hm h2, h3⟩
end
section
variable {E : Env} {n : Nat} {tm : List (Nat × AV)} {bx : List (Nat × Box)} {ops : Array Oper} {l : List Oper} {d : Tmp} {ty : TypeId} {pos : String} {after : Array Edge}
end
section
variable {E : Env} {n : Nat} {tm : List (Nat × AV)} {bx : List (Nat × Box)} {ops : Array Oper} {l : List Oper} {d : Tmp} {ty : TypeId} {pos : String} {after : Array Edge}
end
end Go.Proofs.YtdigejpgjnhclaaDoor.Vm
