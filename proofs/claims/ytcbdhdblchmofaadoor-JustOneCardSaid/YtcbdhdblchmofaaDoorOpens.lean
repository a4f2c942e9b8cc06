/- What an argument of a law reads as, kind by kind: a whole number, a bool, a string, a struct, an array, a slice of whatever these: from the row's own reading to the printed words' reading. No law of the program in sight. -/
import Derived.OpenShut
import Derived.SizedLaws
import Derived.Deep.Slices
import Derived.Lib.SmallJoins
import Derived.Laws.IdiomArrays
import Derived.Test.YtcbdhdblchmofaaDoorWArr
namespace Go.Proofs.YtcbdhdblchmofaaDoor.Opens
open Go.RowKit Go.Proofs.YtcbdhdblchmofaaDoorW.PrintWords
theorem list_of {α : Type} : ∀ {n : Nat} {p : Nat → α → Prop}, (∀ i, i < n → ∃ z, p i z) → ∃ zs : List α, zs.length = n ∧ ∀ (i : Nat) (z : α), zs[i]? = some z → p i z
  | 0, _, _ => ⟨[], rfl, fun i z h => by simp at h⟩
  | n + 1, p, h => by
    obtain ⟨zs, hl, hz⟩ := list_of (n := n) (p := p) (fun i hi => h i (by omega))
    obtain ⟨y, hy⟩ := h n (by omega)
    refine ⟨zs ++ [y], by simp [hl], fun i z hi => ?_⟩
    rcases Nat.lt_or_ge i n with hlt | hge
    · rw [List.getElem?_append_left (by omega)] at hi
      exact hz i z hi
    · rw [List.getElem?_append_right (by omega)] at hi
      have h0 : i - zs.length = 0 := by
        have := (List.getElem?_eq_some_iff.1 hi).1
        simp at this
        omega
      rw [h0] at hi
      simp at hi
      subst hi
      rw [show i = n from by omega]
      exact hy
section
variable {H : Type} (enc : TypeId × Value → H) (P : Program) (w : World) (base : Nat) (spare : Nat → Bool) (held : Bool)
/-- Whatever reads at type t reads as a value of kind d, of which Q holds. -/
def Opens {α : Type} (d : Kd α) (t : TypeId) (Q : α → Prop) : Prop := ∀ (fuel : Nat) (cs : List Value) (x : DataW H × List MemPlace), DataW.trod enc P w base spare held fuel t cs = some x → ∃ z : α, d.K w z cs ∧ Q z
/-- The fields from i on, which begin at cell off. -/
def OpensAt {α : Type} (d : Kd α) (fs : Array Field) (_i off : Nat) (Q : α → Prop) : Prop := ∀ (n : Nat) (cs : List Value) (xs : List (DataW H × List MemPlace)), cs.length = off + d.sz → xs.length = fs.size →
  (∀ (j : Nat) (f : Field), fs[j]? = some f → DataW.trod enc P w base spare held n f.type ((cs.drop f.offset).take (P.cellsOf f.type)) = xs[j]?) → ∃ z : α, d.K w z (cs.drop off) ∧ Q z
variable {enc P w base spare held}
theorem opens_int {k : IntKind} {t : TypeId} (ht : P.underlying t = some (.int k)) : Opens enc P w base spare held (Kd.int k) t (fun z => (Lit.int k z).wf = true) := by
  intro fuel cs x h
  obtain ⟨n, rfl, _, hw⟩ := DataW.trod_int ht h
  exact ⟨n, rfl, hw⟩
theorem opens_bool {t : TypeId} (ht : P.underlying t = some .bool) : Opens enc P w base spare held Kd.bool t (fun _ => True) := by
  intro fuel cs x h
  obtain ⟨n, rfl, _⟩ := DataW.trod_bool ht h
  exact ⟨n, rfl, trivial⟩
theorem opens_string {t : TypeId} (ht : P.underlying t = some .string) : Opens enc P w base spare held Kd.string t (fun z => z.size ≤ maxLen) := by
  intro fuel cs x h
  obtain ⟨n, rfl, _, hw⟩ := DataW.trod_string ht h
  exact ⟨n, rfl, hw⟩
theorem opens_last {α : Type} {d : Kd α} {fs : Array Field} {i off : Nat} {Q : α → Prop} {f : Field} (hf : fs[i]? = some f) (ho : f.offset = off) (hc : P.cellsOf f.type = d.sz) (h : Opens enc P w base spare held d f.type Q) : OpensAt enc P w base spare held d fs i off Q := by
  intro n cs xs hl hx hr
  have h1 := hr i f hf
  have hi : i < xs.length := by rw [hx]; exact (Array.getElem?_eq_some_iff.1 hf).1
  rw [List.getElem?_eq_getElem hi, ho, hc, List.take_of_length_le (by rw [List.length_drop]; omega)] at h1
  exact h n _ _ h1
theorem opens_cons {α β : Type} {a : Kd α} {b : Kd β} {fs : Array Field} {i off : Nat} {Qa : α → Prop} {Qb : β → Prop} {f : Field} (hf : fs[i]? = some f) (ho : f.offset = off) (hc : P.cellsOf f.type = a.sz) (ha : Opens enc P w base spare held a f.type Qa)
    (hb : OpensAt enc P w base spare held b fs (i + 1) (off + a.sz) Qb) : OpensAt enc P w base spare held (Kd.pair a b) fs i off (fun z => Qa z.1 ∧ Qb z.2) := by
  intro n cs xs hl hx hr
  have hl2 : cs.length = (off + a.sz) + b.sz := by rw [hl]; exact (Nat.add_assoc _ _ _).symm
  obtain ⟨zb, kb, qb⟩ := hb n cs xs hl2 hx hr
  have h1 := hr i f hf
  have hi : i < xs.length := by rw [hx]; exact (Array.getElem?_eq_some_iff.1 hf).1
  rw [List.getElem?_eq_getElem hi, ho, hc] at h1
  obtain ⟨za, ka, qa⟩ := ha n _ _ h1
  refine ⟨(za, zb), ⟨_, _, ?_, ka, kb⟩, qa, qb⟩
  rw [show cs.drop (off + a.sz) = (cs.drop off).drop a.sz from by rw [List.drop_drop], List.take_append_drop]
theorem opens_struct {α β : Type} {d : Kd α} {g : β → α} (u : α → β) (hu : ∀ a, g (u a) = a) {t : TypeId} {fs : Array Field} {Q : α → Prop} (ht : P.underlying t = some (.struct fs)) (hc : P.cellsOf t = d.sz) (h : OpensAt enc P w base spare held d fs 0 0 Q) : Opens enc P w base spare held (Kd.iso d g) t (fun z => Q (g z)) := by
  intro fuel cs x hr
  obtain ⟨xs, n, rfl, rfl, hl, hx, hf⟩ := DataW.trod_struct ht hr
  obtain ⟨z, kz, qz⟩ := h n cs xs (by omega) hx hf
  refine ⟨u z, ?_, ?_⟩
  · show d.K w (g (u z)) cs
    rw [hu]
    exact kz
  · show Q (g (u z))
    rw [hu]
    exact qz
theorem opens_array {α : Type} {n : Nat} {d : Kd α} {hs : 0 < d.sz} {t e : TypeId} {Q : α → Prop} (ht : P.underlying t = some (.array n e)) (he : P.cellsOf e = d.sz) (hct : P.cellsOf t = n * d.sz) (h : Opens enc P w base spare held d e Q) :
    Opens enc P w base spare held (Kd.arr n d hs) t (fun zs => zs.length = n ∧ ∀ z ∈ zs, Q z) := by
  intro fuel cs x hr
  obtain ⟨xs, m, rfl, rfl, hl, hx, hf⟩ := DataW.trod_array ht hr
  have key : ∀ i, i < n → ∃ z : α, d.K w z ((cs.drop (i * d.sz)).take d.sz) ∧ Q z := by
    intro i hi
    have h1 := hf i hi
    rw [List.getElem?_eq_getElem (by omega), he] at h1
    exact h m _ _ h1
  obtain ⟨zs, hz, hk⟩ := list_of key
  exact ⟨zs, ⟨hz, by rw [hl, hct, hz], fun i p hp => (hk i p hp).1⟩, hz, fun z hm => by
    obtain ⟨i, hi, rfl⟩ := List.mem_iff_getElem.1 hm
    exact (hk i _ (List.getElem?_eq_getElem hi)).2⟩
/-- A slice: with the datum that it reads as: its length. -/
theorem opens_slice_top {α : Type} {d : Kd α} {t e : TypeId} {Q : α → Prop} (ht : P.underlying t = some (.slice e)) (he : P.cellsOf e = d.sz) (h : Opens enc P w base spare held d e Q) {fuel : Nat} {cs : List Value} {x : DataW H × List MemPlace} (hr : DataW.trod enc P w base spare held fuel t cs = some x) :
    ∃ zs : List α, (Kd.slice e d).K w zs cs ∧ zs.length ≤ maxLen ∧ (∀ z ∈ zs, Q z) ∧ (zs = [] ∨ ∃ D S, x.1 = .slice D S ∧ D.length = zs.length) := by
  rcases DataW.trod_slice ht hr with ⟨rfl, rfl⟩ | ⟨a, len, cap, elems, rest, n, rfl, rfl, rfl, hb, hl, hm, hlen, hel, _, _⟩
  · exact ⟨[], ⟨none, 0, rfl, Nat.le_refl _, rfl, by simp, fun hp => by simp at hp⟩, by simp, by simp, .inl rfl⟩
  have key : ∀ i, i < len → ∃ z : α, (∃ c : List Value, c.length = d.sz ∧ d.K w z c ∧ ∀ q u, c[q]? = some u → w.cell? (a.add (i * d.sz + q)) = some u) ∧ Q z := by
    intro i hi
    have h1 := hel i hi
    rw [List.getElem?_eq_getElem (by omega), he] at h1
    obtain ⟨c, hc, h2⟩ := Option.bind_eq_some_iff.1 h1
    obtain ⟨_, hcl, hcc⟩ := World.cells?_some hc
    obtain ⟨z, kz, qz⟩ := h n _ _ h2
    refine ⟨z, ⟨c, hcl, kz, fun q u hq => ?_⟩, qz⟩
    have hql : q < d.sz := by have := (List.getElem?_eq_some_iff.1 hq).1; omega
    rw [← Deep.add_add, hcc q hql, hq]
  obtain ⟨zs, hz, hk⟩ := list_of key
  have hml : len ≤ maxLen := Nat.le_trans hl hm
  refine ⟨zs, ⟨some a, cap, by rw [hz], by omega, rfl, by unfold maxLen at hml; omega, fun _ => ⟨a, rfl, fun j p hp => (hk j p hp).1⟩⟩, by omega, fun z hmz => ?_, .inr ⟨_, _, rfl, by simp [hlen, hz]⟩⟩
  obtain ⟨i, hi, rfl⟩ := List.mem_iff_getElem.1 hmz
  exact (hk i _ (List.getElem?_eq_getElem hi)).2
theorem opens_slice {α : Type} {d : Kd α} {t e : TypeId} {Q : α → Prop} (ht : P.underlying t = some (.slice e)) (he : P.cellsOf e = d.sz) (h : Opens enc P w base spare held d e Q) : Opens enc P w base spare held (Kd.slice e d) t (fun zs => zs.length ≤ maxLen ∧ ∀ z ∈ zs, Q z) := by
  intro fuel cs x hr
  obtain ⟨zs, h1, h2, h3, _⟩ := opens_slice_top ht he h hr
  exact ⟨zs, h1, h2, h3⟩
/-- A slice that an argument is: its address, its readings, its size. -/
theorem open_arg {α : Type} {d : Kd α} {t e : TypeId} {Q : α → Prop} {ts : List TypeId} {ds : List (DataW H)} {j B : Nat} {v : Value} {D : DataW H} {ps : List MemPlace} (hsz : (DataW.weightsEach P ts ds).all (· ≤ reachBytes) = true) (htj : ts[j]? = some t) (hdj : ds[j]? = some D) (hB : P.bytesOf e = B)
    (ht : P.underlying t = some (.slice e)) (he : P.cellsOf e = d.sz) (h : Opens enc P w base spare held d e Q) (hr : DataW.Trod enc P w base spare held t v D ps) (hv : v.cells.toList = [v]) :
    ∃ (A : Option Addr) (c : Nat) (zs : List α), v = .slice A zs.length c ∧ Kd.C d w A zs.length zs ∧ zs.length ≤ c ∧ zs.length ≤ maxLen ∧ zs.length * B ≤ 140737488351232 ∧ ∀ z ∈ zs, Q z := by
  obtain ⟨fuel, hf⟩ := hr
  rw [hv] at hf
  obtain ⟨zs, ⟨A, c, e1, hc, hC⟩, h2, h3, h4⟩ := opens_slice_top ht he h hf
  injection e1 with e1 _
  refine ⟨A, c, zs, e1, hC, hc, h2, ?_, h3⟩
  rcases h4 with rfl | ⟨D', S', h5, h6⟩
  · simp
  · simp only at h5
    subst h5
    have z := sized_slice hsz htj hdj ht
    rw [hB] at z
    have : zs.length * B ≤ (D'.length + S'.length) * B := Nat.mul_le_mul_right _ (by omega)
    exact Nat.le_trans this z
/-- An array of four, by value: its cells, and what each reads as. -/
theorem open_arr4 {r : Reach} {b0 : Nat} {t e : TypeId} {v : Value} {d : DataW H} {p : List MemPlace} (ht : P.underlying t = some (.array 4 e)) (hce : P.cellsOf e = 1) (hC : P.cellsOf t = 4)
    (hv : Value.okWide P w r b0 t v) (h : DataW.Trod enc P w base spare held t v d p) :
    ∃ (v0 v1 v2 v3 : Value) (y0 y1 y2 y3 : DataW H × List MemPlace) (n : Nat), v = .agg #[v0, v1, v2, v3] ∧ d = .agg [y0.1, y1.1, y2.1, y3.1] ∧ p = y0.2 ++ (y1.2 ++ (y2.2 ++ y3.2)) ∧
      DataW.trod enc P w base spare held n e [v0] = some y0 ∧ DataW.trod enc P w base spare held n e [v1] = some y1 ∧ DataW.trod enc P w base spare held n e [v2] = some y2 ∧ DataW.trod enc P w base spare held n e [v3] = some y3 := by
  simp only [Value.okWide, ht] at hv
  obtain ⟨cs, rfl, hsz, _⟩ := hv
  obtain ⟨c0, c1, c2, c3, rfl⟩ := Joins.array4 (hsz.trans hC)
  obtain ⟨fuel, hf⟩ := h
  obtain ⟨y0, y1, y2, y3, n, hx, h0, h1, h2, h3⟩ := ChangeShapes.trod_array4 ht hce hf
  simp only [Prod.mk.injEq] at hx
  exact ⟨c0, c1, c2, c3, y0, y1, y2, y3, n, rfl, hx.1, hx.2, h0, h1, h2, h3⟩
end
end Go.Proofs.YtcbdhdblchmofaaDoor.Opens
