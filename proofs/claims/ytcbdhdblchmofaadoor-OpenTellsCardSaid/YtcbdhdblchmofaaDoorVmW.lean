/- The value machine, twenty-second part: what an argument reads as. Conditions: none. -/
import Derived.Test.YtcbdhdblchmofaaDoorVmV
import Derived.OpenShut
import Derived.SizedLaws
import Derived.Lib.SmallJoins
namespace Go.Proofs.YtcbdhdblchmofaaDoor.Vm
open Go Go.RowKit Go.ChangeShapes Go.WideShapes Go.ChangeAt
set_option linter.unusedVariables false
theorem list_of {α : Type} : ∀ {n : Nat} {p : Nat → α → Prop}, (∀ i, i < n → ∃ z, p i z) → ∃ zs : List α, zs.length = n ∧ ∀ (i : Nat) (z : α), zs[i]? = some z → p i z
  | 0, _, _ => ⟨[], rfl, fun i z h => by simp at h⟩
  | n + 1, p, h => by
    obtain ⟨zs, hl, hz⟩ := list_of (n := n) (p := p) (fun i hi => h i (by omega))
    obtain ⟨y, hy⟩ := h n (by omega)
    refine ⟨zs ++ [y], by simp [hl], fun i z hi => ?_⟩
    rcases Nat.lt_or_ge i n with hlt | hge
    · rw [List.getElem?_append_left (by omega)] at hi
      exact hz i z hi
    · rw [List.getElem?_append_right (by omega)] at hi
      have h0 : i - zs.length = 0 := by
        have := (List.getElem?_eq_some_iff.1 hi).1
        simp at this
        omega
      rw [h0] at hi
      simp at hi
      subst hi
      rw [show i = n from by omega]
      exact hy
/-- Numbers that stand one behind another, as a list. -/
theorem RP.numbers {dat : Nat → Nat → Option Value} {k : IntKind} {a : Addr} {l : List Int} {c : Nat} (hs : a.spot = none) (hc : l.length ≤ c) (hm : c ≤ maxLen) (h : ∀ (i : Nat) z, l[i]? = some z → dat a.block (a.off + i) = some (.int k z)) : RP dat (.lst 1 (l.map (PV.int k))) (.slice (some a) l.length c) := by
  refine .lst 1 _ _ _ _ (by simp) hc hm (fun p hp => ?_) (fun p hp q hq => ?_) (fun h => by cases h) (fun a' h => by obtain rfl := Option.some.inj h; exact hs) (fun a' q j p x ha hp hx => ?_) (fun a' q j p x v ha hp hx hv => ?_)
  · obtain ⟨z, _, rfl⟩ := List.mem_map.1 hp; rfl
  · obtain ⟨z, _, rfl⟩ := List.mem_map.1 hp
    simp [PV.cells] at hq
    subst hq; rfl
  · obtain rfl := Option.some.inj ha
    rw [List.getElem?_map, Option.map_eq_some_iff] at hp
    obtain ⟨z, hz, rfl⟩ := hp
    cases j with
    | zero => exact ⟨_, by simpa using h q z hz⟩
    | succ j => simp [PV.cells] at hx
  · obtain rfl := Option.some.inj ha
    rw [List.getElem?_map, Option.map_eq_some_iff] at hp
    obtain ⟨z, hz, rfl⟩ := hp
    cases j with
    | zero =>
      simp only [Nat.mul_one, Nat.add_zero] at hv
      rw [h q z hz] at hv
      obtain rfl := Option.some.inj hv
      simp [PV.cells] at hx
      subst hx
      exact .int _ _
    | succ j => simp [PV.cells] at hx
/-- Bytes that an argument is. -/
theorem open_bytes {H : Type} {enc : TypeId × Value → H} {P : Program} {W : World} {base b0 : Nat} {spare : Nat → Bool} {held : Bool} {t e : TypeId} {v : Value} {D : DataW H} {ps : List MemPlace} (ht : P.underlying t = some (.slice e)) (he : P.underlying e = some (.int .u8)) (hce : P.cellsOf e = 1)
    (hv : Value.okWide P W .any b0 t v) (h : DataW.Trod enc P W base spare held t v D ps) : ∃ l : List Int, RP (fun b o => W.cell? ⟨b, o, none⟩) (.lst 1 (l.map (PV.int .u8))) v ∧ (∀ z ∈ l, 0 ≤ z ∧ z < 256) ∧ (l.length : Int) ≤ 9223372036854775807 := by
  obtain ⟨b, len, cap, rfl⟩ := okWide_slice ht hv
  obtain ⟨fuel, hf⟩ := h
  have hcs : (Value.slice b len cap).cells.toList = [Value.slice b len cap] := rfl
  rw [hcs] at hf
  rcases DataW.trod_slice ht hf with ⟨e1, _⟩ | ⟨a, len', cap', elems, rest, n, rfl, e1, _, hb, hl, hm, hlen, hel, _, _⟩
  · injection e1 with e1 _
    rw [e1]
    exact ⟨[], .lst 1 [] none 0 0 rfl (Nat.le_refl _) (by unfold maxLen; omega) (fun e he => by simp at he) (fun e he => by simp at he) (fun _ => rfl) (fun a h => by cases h) (fun a i j e x h => by cases h) (fun a i j e x v h => by cases h), fun z hz => by simp at hz, by simp⟩
  · injection e1 with e1 _
    rw [e1] at hv ⊢
    have hsp : a.spot = none := by
      simp only [Value.okWide, ht, Cell.okWide, Cell.ok] at hv
      exact hv.2.2.2.1
    rw [hce] at hel
    have key : ∀ i, i < len' → ∃ z : Int, W.cell? ⟨a.block, a.off + i, none⟩ = some (.int .u8 z) ∧ 0 ≤ z ∧ z < 256 := by
      intro i hi
      have h1 := hel i hi
      rw [List.getElem?_eq_getElem (by omega)] at h1
      obtain ⟨c, hc, h2⟩ := Option.bind_eq_some_iff.1 h1
      obtain ⟨_, hcl, hcc⟩ := World.cells?_some hc
      obtain ⟨z, rfl, _, hw⟩ := DataW.trod_int he h2
      have h3 := hcc 0 (by omega)
      rw [add_spot a hsp] at h3
      rw [add_plain0] at h3
      refine ⟨z, by simpa using h3, ?_⟩
      simp only [Lit.wf, Bool.and_eq_true, decide_eq_true_eq] at hw
      have e0 : IntKind.u8.min = 0 := by decide
      have e1 : IntKind.u8.max = 255 := by decide
      rw [e0, e1] at hw
      omega
    obtain ⟨l, hll, hk⟩ := list_of key
    subst hll
    refine ⟨l, RP.numbers hsp hl hm fun i z hz => (hk i z hz).1, fun z hz => ?_, by unfold maxLen at hm; omega⟩
    obtain ⟨i, hi, rfl⟩ := List.mem_iff_getElem.1 hz
    exact (hk i _ (List.getElem?_eq_getElem hi)).2
/-- The arguments, one by one. -/
inductive RAs (G : Gh) : List AV → List Value → Prop
  | nil : RAs G [] []
  | cons {x : AV} {v : Value} {xs : List AV} {vs : List Value} (h : RA G x v) (r : RAs G xs vs) : RAs G (x :: xs) (v :: vs)
theorem RAs.get {G : Gh} {xs : List AV} {vs : List Value} (h : RAs G xs vs) : ∀ (i : Nat) x v, xs[i]? = some x → vs.toArray[i]? = some v → RA G x v := by
  induction h with
  | nil => intro i x v hx; simp at hx
  | cons h r ih =>
    intro i x v hx hv
    cases i with
    | zero => simp at hx hv; subst hx; subst hv; exact h
    | succ i => exact ih i x v (by simpa using hx) (by simpa using hv)
theorem int_wf {n : Int} (h : (Lit.int .i64 n).wf = true) : -9223372036854775808 ≤ n ∧ n ≤ 9223372036854775807 := by
  simp only [Lit.wf, Bool.and_eq_true, decide_eq_true_eq] at h
  have e0 : IntKind.i64.min = -9223372036854775808 := by decide
  have e1 : IntKind.i64.max = 9223372036854775807 := by decide
  rw [e0, e1] at h
  exact h
/-- A package variable that holds numbers. -/
def numsG (k0 : Nat) (k : IntKind) (l : List Int) (x : Nat) : Option (List PV) := if x = k0 then some (l.map (PV.int k)) else none
theorem glo_nums {k0 : Nat} {k : IntKind} {l : List Int} {w : World} (h : ∀ (i : Nat) z, l[i]? = some z → w.cell? ⟨k0, i, none⟩ = some (.int k z)) : Glo (numsG k0 k l) w := by
  intro x cs hx j p u hp hu
  unfold numsG at hx
  split at hx
  · rename_i e
    subst e
    obtain rfl := Option.some.inj hx
    rw [List.getElem?_map, Option.map_eq_some_iff] at hp
    obtain ⟨z, hz, rfl⟩ := hp
    obtain rfl := Option.some.inj hu
    exact h j z hz
  · cases hx
theorem nums_flat {k0 : Nat} {k : IntKind} {l : List Int} : ∀ x cs, numsG k0 k l x = some cs → ∀ p ∈ cs, ∃ u, p.val? = some u := by
  intro x cs hx p hp
  unfold numsG at hx
  split at hx
  · obtain rfl := Option.some.inj hx
    obtain ⟨z, _, rfl⟩ := List.mem_map.1 hp
    exact ⟨_, rfl⟩
  · cases hx
end Go.Proofs.YtcbdhdblchmofaaDoor.Vm
