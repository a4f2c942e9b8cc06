/- Arguments that are slices of raw things. Conditions: none. -/
import Derived.Test.YtlcmnhocicehmaaDoorRightS
import Derived.OpenShut
namespace Go.Proofs.YtlcmnhocicehmaaDoor.Vm
open Go Go.RowKit Go.ChangeShapes Go.WideShapes Go.ChangeAt
set_option linter.unusedVariables false
set_option linter.unusedSimpArgs false
theorem RP.raws {dat : Nat → Nat → Option Value} {a : Addr} {rs : List Rw} {c : Nat} (hs : a.spot = none) (hc : rs.length ≤ c) (hm : c ≤ maxLen)
    (h : ∀ (i : Nat) (r : Rw), rs[i]? = some r → dat a.block (a.off + (i * 4 + 0)) = some (.int .i64 r.kd) ∧ dat a.block (a.off + (i * 4 + 1)) = some (.int .i64 r.a) ∧ dat a.block (a.off + (i * 4 + 2)) = some (.int .i64 r.b) ∧ dat a.block (a.off + (i * 4 + 3)) = some (.string r.s)) :
    RP dat (.lst 4 (rs.map rawE)) (.slice (some a) rs.length c) := by
  have key : ∀ (q j : Nat) (p x : PV), (rs.map rawE)[q]? = some p → p.cells[j]? = some x → ∃ v, dat a.block (a.off + (q * 4 + j)) = some v ∧ RP dat x v := by
    intro q j p x hp hx
    rw [List.getElem?_map, Option.map_eq_some_iff] at hp
    obtain ⟨r, hr, rfl⟩ := hp
    obtain ⟨h0, h1, h2, h3⟩ := h q r hr
    match j, hx with
    | 0, hx => obtain rfl := Option.some.inj hx; exact ⟨_, h0, .int _ _⟩
    | 1, hx => obtain rfl := Option.some.inj hx; exact ⟨_, h1, .int _ _⟩
    | 2, hx => obtain rfl := Option.some.inj hx; exact ⟨_, h2, .int _ _⟩
    | 3, hx => obtain rfl := Option.some.inj hx; exact ⟨_, h3, .str _⟩
    | j + 4, hx => cases hx
  refine .lst 4 _ _ _ _ (by simp) hc hm (fun p hp => ?_) (fun p hp q hq => ?_) (fun h => by cases h) (fun a' h => by obtain rfl := Option.some.inj h; exact hs) (fun a' q j p x ha hp hx => ?_) (fun a' q j p x v ha hp hx hv => ?_)
  · obtain ⟨z, _, rfl⟩ := List.mem_map.1 hp; rfl
  · obtain ⟨z, _, rfl⟩ := List.mem_map.1 hp
    simp [PV.cells] at hq
    rcases hq with rfl | rfl | rfl | rfl <;> rfl
  · obtain rfl := Option.some.inj ha
    obtain ⟨v, hv, _⟩ := key q j p x hp hx
    exact ⟨v, hv⟩
  · obtain rfl := Option.some.inj ha
    obtain ⟨v', hv', h⟩ := key q j p x hp hx
    rw [hv] at hv'
    obtain rfl := Option.some.inj hv'
    exact h
/-- .. how much they weigh, and that their numbers are of 64 bits. -/
theorem open_rawsR {H : Type} {enc : TypeId × Value → H} {P : Program} {W : World} {base b0 : Nat} {spare : Nat → Bool} {held : Bool} {t e : TypeId} {f0 f1 f2 f3 : Field} {v : Value} {D : DataW H} {ps : List MemPlace} (ht : P.underlying t = some (.slice e)) (he : P.underlying e = some (.struct #[f0, f1, f2, f3]))
    (ho : f0.offset = 0 ∧ f1.offset = 1 ∧ f2.offset = 2 ∧ f3.offset = 3) (h0 : P.underlying f0.type = some (.int .i64)) (h1 : P.underlying f1.type = some (.int .i64)) (h2 : P.underlying f2.type = some (.int .i64)) (h3 : P.underlying f3.type = some .string)
    (hc : P.cellsOf f0.type = 1 ∧ P.cellsOf f1.type = 1 ∧ P.cellsOf f2.type = 1 ∧ P.cellsOf f3.type = 1) (hce : P.cellsOf e = 4)
    (hv : Value.okWide P W .any b0 t v) (h : DataW.Trod enc P W base spare held t v D ps) : ∃ rs : List Rw, RP (fun b o => W.cell? ⟨b, o, none⟩) (.lst 4 (rs.map rawE)) v ∧ (rs.length : Int) ≤ 9223372036854775807 ∧ (∀ r ∈ rs, -9223372036854775808 ≤ r.a ∧ r.a ≤ 9223372036854775807) ∧ ∀ M : Nat, (∀ n ∈ D.weights P t, n ≤ M) → rs.length * P.bytesOf e ≤ M := by
  obtain ⟨b, len, cap, rfl⟩ := okWide_slice ht hv
  obtain ⟨fuel, hf⟩ := h
  have hcs : (Value.slice b len cap).cells.toList = [Value.slice b len cap] := rfl
  rw [hcs] at hf
  rcases DataW.trod_slice ht hf with ⟨e1, _⟩ | ⟨a, len', cap', elems, rest, n, rfl, e1, e2, hb, hl, hm, hlen, hel, _, _⟩
  · injection e1 with e1 _
    rw [e1]
    exact ⟨[], .lst 4 [] none 0 0 rfl (Nat.le_refl _) (by unfold maxLen; omega) (fun e he => by simp at he) (fun e he => by simp at he) (fun _ => rfl) (fun a h => by cases h) (fun a i j e x h => by cases h) (fun a i j e x v h => by cases h), by simp, fun r hr => by simp at hr, fun M _ => by simp⟩
  · injection e1 with e1 _
    rw [e1] at hv ⊢
    have hsp : a.spot = none := by
      simp only [Value.okWide, ht, Cell.okWide, Cell.ok] at hv
      exact hv.2.2.2.1
    rw [hce] at hel
    have key : ∀ i, i < len' → ∃ r : Rw, W.cell? ⟨a.block, a.off + (i * 4 + 0), none⟩ = some (.int .i64 r.kd) ∧ W.cell? ⟨a.block, a.off + (i * 4 + 1), none⟩ = some (.int .i64 r.a) ∧ W.cell? ⟨a.block, a.off + (i * 4 + 2), none⟩ = some (.int .i64 r.b) ∧ W.cell? ⟨a.block, a.off + (i * 4 + 3), none⟩ = some (.string r.s) ∧ -9223372036854775808 ≤ r.a ∧ r.a ≤ 9223372036854775807 := by
      intro i hi
      have k1 := hel i hi
      rw [List.getElem?_eq_getElem (by omega)] at k1
      obtain ⟨c, hcc, k2⟩ := Option.bind_eq_some_iff.1 k1
      obtain ⟨_, hcl, hcc⟩ := World.cells?_some hcc
      obtain ⟨xs, m, rfl, _, hcn, hxl, hfl⟩ := DataW.trod_struct he k2
      obtain ⟨o0, o1, o2, o3⟩ := ho
      obtain ⟨c0, c1, c2, c3⟩ := hc
      have l4 : xs.length = 4 := by rw [hxl]; rfl
      obtain ⟨y0, y1, y2, y3, rfl⟩ : ∃ y0 y1 y2 y3, c = [y0, y1, y2, y3] := by
        match c, (show c.length = 4 by rw [hcn, hce]) with
        | [y0, y1, y2, y3], _ => exact ⟨y0, y1, y2, y3, rfl⟩
      have q0 := hfl 0 f0 rfl
      have q1 := hfl 1 f1 rfl
      have q2 := hfl 2 f2 rfl
      have q3 := hfl 3 f3 rfl
      rw [o0, c0, List.getElem?_eq_getElem (by omega)] at q0
      rw [o1, c1, List.getElem?_eq_getElem (by omega)] at q1
      rw [o2, c2, List.getElem?_eq_getElem (by omega)] at q2
      rw [o3, c3, List.getElem?_eq_getElem (by omega)] at q3
      obtain ⟨z0, e0, _⟩ := DataW.trod_int h0 q0
      obtain ⟨z1, e1, _, wf1⟩ := DataW.trod_int h1 q1
      have bd1 := Go.bounds_i64 wf1
      obtain ⟨z2, e2, _⟩ := DataW.trod_int h2 q2
      obtain ⟨z3, e3, _⟩ := DataW.trod_string h3 q3
      obtain rfl : y0 = .int .i64 z0 := by injection e0
      obtain rfl : y1 = .int .i64 z1 := by injection e1
      obtain rfl : y2 = .int .i64 z2 := by injection e2
      obtain rfl : y3 = .string z3 := by injection e3
      have at' : ∀ j, j < 4 → W.cell? ⟨a.block, a.off + (i * 4 + j), none⟩ = ([Value.int .i64 z0, .int .i64 z1, .int .i64 z2, .string z3] : List Value)[j]? := fun j hj => by
        have := hcc j (by simpa using hj)
        rw [add_spot a hsp, add_plain0, Nat.add_assoc] at this
        exact this
      exact ⟨⟨z0, z1, z2, z3⟩, at' 0 (by omega), at' 1 (by omega), at' 2 (by omega), at' 3 (by omega), bd1.1, bd1.2⟩
    obtain ⟨l, hll, hk⟩ := list_of key
    subst hll
    refine ⟨l, RP.raws hsp hl hm (fun i r hr => ⟨(hk i r hr).1, (hk i r hr).2.1, (hk i r hr).2.2.1, (hk i r hr).2.2.2.1⟩), by unfold maxLen at hm; omega, fun r hr => ?_, fun M hM => ?_⟩
    · obtain ⟨i, hi⟩ := List.getElem?_of_mem hr
      exact (hk i r hi).2.2.2.2
    injection e2 with e2 _
    subst e2
    have h1 := hM ((elems.length + rest.length) * P.bytesOf e) (by simp [DataW.weights, ht])
    rw [hlen] at h1
    exact Nat.le_trans (Nat.mul_le_mul_right _ (by omega)) h1
end Go.Proofs.YtlcmnhocicehmaaDoor.Vm
