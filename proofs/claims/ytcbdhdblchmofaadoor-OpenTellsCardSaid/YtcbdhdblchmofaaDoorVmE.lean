/- The value machine, fifth part: slices that the call makes and grows. Conditions: none. -/
import Derived.Test.YtcbdhdblchmofaaDoorVmD
namespace Go.Proofs.YtcbdhdblchmofaaDoor.Vm
open Go Go.RowKit
set_option linter.unusedVariables false
set_option linter.unusedSimpArgs false

/-- A row of cells holds these elements. -/
structure RowsOf (dat : Nat → Nat → Option Value) (sz : Nat) (xs : List PV) (us : List Value) : Prop where
  len : us.length = xs.length * sz
  hz : ∀ e ∈ xs, e.cells.length = sz
  h1 : ∀ e ∈ xs, ∀ x ∈ e.cells, x.one = true
  rel : ∀ (i j : Nat) e x v, xs[i]? = some e → e.cells[j]? = some x → us[i * sz + j]? = some v → RP dat x v

theorem idx_lt {i n j sz : Nat} (hi : i < n) (hj : j < sz) : i * sz + j < n * sz := by
  have : (i + 1) * sz ≤ n * sz := Nat.mul_le_mul_right _ hi
  rw [Nat.add_mul] at this
  omega
theorem RowsOf.jlt {dat : Nat → Nat → Option Value} {sz : Nat} {xs : List PV} {us : List Value} (h : RowsOf dat sz xs us) {i j : Nat} {e x : PV} (he : xs[i]? = some e) (hx : e.cells[j]? = some x) : i * sz + j < us.length := by
  have h1 := (List.getElem?_eq_some_iff.1 he).1
  have h2 := (List.getElem?_eq_some_iff.1 hx).1
  rw [h.hz e (List.mem_of_getElem? he)] at h2
  rw [h.len]
  exact idx_lt h1 h2
theorem RowsOf.mono {dat dat' : Nat → Nat → Option Value} {sz : Nat} {xs : List PV} {us : List Value} (h : RowsOf dat sz xs us) (hle : ∀ b o v, dat b o = some v → dat' b o = some v) : RowsOf dat' sz xs us :=
  ⟨h.len, h.hz, h.h1, fun i j e x v he hx hv => (h.rel i j e x v he hx hv).mono hle⟩
theorem RowsOf.append {dat : Nat → Nat → Option Value} {sz : Nat} {xs ys : List PV} {us vs : List Value} (h : RowsOf dat sz xs us) (k : RowsOf dat sz ys vs) : RowsOf dat sz (xs ++ ys) (us ++ vs) := by
  refine ⟨by rw [List.length_append, h.len, k.len, List.length_append, Nat.add_mul], fun e he => ?_, fun e he => ?_, fun i j e x v he hx hv => ?_⟩
  · rcases List.mem_append.1 he with he | he
    · exact h.hz e he
    · exact k.hz e he
  · rcases List.mem_append.1 he with he | he
    · exact h.h1 e he
    · exact k.h1 e he
  · by_cases c : i < xs.length
    · rw [List.getElem?_append_left c] at he
      rw [List.getElem?_append_left (h.jlt he hx)] at hv
      exact h.rel i j e x v he hx hv
    · rw [List.getElem?_append_right (by omega)] at he
      have hle : xs.length * sz ≤ i * sz := Nat.mul_le_mul_right _ (by omega)
      rw [List.getElem?_append_right (by rw [h.len]; omega)] at hv
      refine k.rel (i - xs.length) j e x v he hx ?_
      rw [← hv]
      congr 1
      rw [h.len, Nat.sub_mul]
      omega
theorem RowsOf.lst {dat : Nat → Nat → Option Value} {sz : Nat} {xs : List PV} {us : List Value} (h : RowsOf dat sz xs us) {k c : Nat} (hd : ∀ o, o < xs.length * sz → dat k o = us[o]?) (hc : xs.length ≤ c) (hm : c ≤ maxLen) :
    RP dat (.lst sz xs) (.slice (some ⟨k, 0, none⟩) xs.length c) := by
  refine .lst sz xs _ _ c rfl hc hm h.hz h.h1 (fun h => by cases h) (fun a ha => by obtain rfl := Option.some.inj ha; rfl) (fun a i j e x ha he hx => ?_) (fun a i j e x v ha he hx hv => ?_)
  · obtain rfl := Option.some.inj ha
    have hlt := h.jlt he hx
    refine ⟨us[i * sz + j], ?_⟩
    simp only [Nat.zero_add]
    rw [hd _ (by rw [← h.len]; exact hlt)]
    simp [hlt]
  · obtain rfl := Option.some.inj ha
    have hlt := h.jlt he hx
    simp only [Nat.zero_add] at hv
    rw [hd _ (by rw [← h.len]; exact hlt)] at hv
    exact h.rel i j e x v he hx hv

theorem run_append3 {P : Program} (w : World) (base : Nat) (t ty e : TypeId) (i : TypeInfo) (z : Value) (ht : P.underlying t = some (.slice e)) (hi : P.info? e = some i) (hz : i.zero = some z) (hzs : z.cells.size = i.size) (hsz : 0 < i.size)
    (v : Value) (n : Nat) (xs : List Value) (hown : w.ownsRow base e i.size v n xs) (a : Addr) (m c : Nat) (news : List Value) (hl : news.length = m * i.size) (hnews : ∀ (j : Nat) u, news[j]? = some u → w.cell? (a.add j) = some u) (h1 : ∀ u ∈ news, u.oneCell' = true)
    (h63 : n + m ≤ maxLen) (hbytes : (n + m) * i.bytes ≤ 140737488355328) (hbase : base ≤ w.heap.size) :
    ∃ v' w', (Builtin.append_ #[t, t] ty #[v, .slice (some a) m c]).run P w = .ok v' w' ∧ w'.ownsRow base e i.size v' (n + m) (xs ++ news) ∧ w.grownBy w' v.ownBlock ∧
      (v'.ownBlock = v.ownBlock ∨ ∃ k, v'.ownBlock = some k ∧ w.heap.size ≤ k ∧ ∀ j, j < w.heap.size → w'.heap[j]? = w.heap[j]?) ∧ (m = 0 → v' = v) := by
  have hown0 := hown
  rcases hown.2 with ⟨rfl, rfl⟩ | ⟨g, cap, cur, rfl, hbg, hg, hnc, hcm, hcs, htake⟩
  · obtain ⟨v', w', h2, h3, h4, h5⟩ := run_append_own (P := P) w base t ty e i z i.size i.bytes ht hi hz rfl rfl hzs hsz _ 0 xs hown a m c news hl hnews h1 h63 hbytes hbase
    by_cases hm : m = 0
    · have := h5.2 ⟨rfl, hm⟩
      subst this
      exact ⟨_, w', h2, h3, h4, .inl rfl, fun _ => rfl⟩
    · have hr := run_append_nil (P := P) w t ty e i z ht hi hz a m c news hl hnews (by omega) (by simp only [maxLen] at h63; omega) (by have hb := hbytes; simp only [Nat.zero_add] at hb; omega)
      rw [hr] at h2
      injection h2 with e1 e2
      subst e1
      subst e2
      exact ⟨_, _, hr, h3, h4, .inr ⟨w.heap.size, rfl, Nat.le_refl _, fun j hj => heap_alloc_old w.drew _ j hj⟩, fun e => absurd e hm⟩
  · obtain ⟨v', w', h2, h3, h4, h5⟩ := run_append_own (P := P) w base t ty e i z i.size i.bytes ht hi hz rfl rfl hzs hsz _ n xs hown a m c news hl hnews h1 h63 hbytes hbase
    by_cases hroom : n + m ≤ cap
    · have hfit : n * i.size + news.length ≤ cur.size := by rw [hl, hcs, ← Nat.add_mul]; exact Nat.mul_le_mul_right _ hroom
      have hr := run_append_room (P := P) w t ty e i ht hi g n cap cur hg a m c news hl hnews h1 hroom hfit
      rw [hr] at h2
      injection h2 with e1 e2
      subst e1
      subst e2
      exact ⟨_, _, hr, h3, h4, .inl rfl, fun e => by subst e; rfl⟩
    · have holds : ∀ (j : Nat) u, xs[j]? = some u → w.cell? ((⟨g, 0, none⟩ : Addr).add j) = some u := hown0.cells (g := g) rfl
      have hr := run_append_grow (P := P) w t ty e i z ht hi hz ⟨g, 0, none⟩ n cap xs hown0.1 holds a m c news hl hnews (by omega) (by simp only [maxLen] at h63; omega) (growslice_fits (by omega) hbytes)
      rw [hr] at h2
      injection h2 with e1 e2
      subst e1
      subst e2
      exact ⟨_, _, hr, h3, h4, .inr ⟨w.heap.size, rfl, Nat.le_refl _, fun j hj => heap_alloc_old w.drew _ j hj⟩, fun e => by omega⟩

section
variable {P : Program} {g : Nat → Option (List PV)} {s s1 s' : St} {cx : Cx} {a : Act} {w : World} {G : Gh}

/-- The cells of a slice of the call's own. -/
theorem SR.rows (h : SR cx s a w G) {b e sz : Nat} {xs : List PV} (hb : look s.bx b = some (.lst e sz xs)) :
    ∃ hh us, G.ls b = some (sz, xs, hh) ∧ 0 < sz ∧ w.ownsRow cx.base e sz hh xs.length us ∧ RowsOf G.dat sz xs us ∧ RP G.dat (.lst sz xs) hh ∧ (∀ k, hh.ownBlock = some k → ∀ o, xs.length * sz ≤ o → G.dat k o = none) := by
  obtain ⟨hh, us, h1, h2, h3, h4, h5⟩ := h.bx b _ hb
  refine ⟨hh, us, h1, h2, h3, ?_, h4, h5⟩
  have h4' := h4
  cases h4' with
  | lst _ _ A n c hn hc hm hz h1' hnone hspot hdat hrp =>
    refine ⟨h3.1, hz, h1', fun i j el x v he hx hv => ?_⟩
    cases A with
    | none => rw [hnone rfl] at he; simp at he
    | some ad =>
      obtain ⟨u, hu⟩ := hdat ad i j el x rfl he hx
      have hcell := h.dat _ _ _ hu
      rcases h3.2 with ⟨e1, _⟩ | ⟨gg, cap, cur, e1, _⟩
      · cases e1
      · injection e1 with e2 e3 e4
        obtain rfl := Option.some.inj e2
        have := h3.cells (g := gg) rfl (i * sz + j) v hv
        rw [add_plain0] at this
        simp only [Nat.zero_add] at hcell this
        rw [hcell] at this
        obtain rfl := Option.some.inj this
        exact hrp _ i j el x u rfl he hx hu

/-- A slice grown, or made: its cells are known from now on. -/
theorem SR.growLst (h : SR cx s a w G) {w' : World} {b e sz : Nat} {xs : List PV} {hh : Value} {us : List Value} (hsz : 0 < sz) (hnb : G.blk b = none) (hown : w'.ownsRow cx.base e sz hh xs.length us) (hr : RowsOf G.dat sz xs us)
    (hbel : Below cx.base cx.w0 w') (hsize : w.heap.size ≤ w'.heap.size)
    (hkeep : ∀ k, k < w.heap.size → G.own b ≠ some k → w'.heap[k]? = w.heap[k]?)
    (hold : ∀ k o v, G.own b = some k → G.dat k o = some v → w'.cell? ⟨k, o, none⟩ = some v)
    (hnew : hh.ownBlock = G.own b ∨ ∃ k, hh.ownBlock = some k ∧ w.heap.size ≤ k)
    (hdat : ∀ k, hh.ownBlock = some k → G.own b = some k → ∀ o, xs.length * sz ≤ o → G.dat k o = none)
    (hls : ∀ sz0 xs0 h0, G.ls b = some (sz0, xs0, h0) → ∃ ys, sz0 = sz ∧ xs = xs0 ++ ys ∧ (ys = [] → hh = h0)) :
    ∃ G', G.Le G' ∧ G'.ls b = some (sz, xs, hh) ∧ RP G'.dat (.lst sz xs) hh ∧ SR cx (s.box b (.lst e sz xs)) a w' G' := by
  obtain ⟨D, hD⟩ : ∃ D : Nat → Nat → Option Value, D = fun k o => if hh.ownBlock = some k ∧ o < xs.length * sz then us[o]? else G.dat k o := ⟨_, rfl⟩
  have hulen := hr.len
  have hcell : ∀ k o, hh.ownBlock = some k → o < xs.length * sz → w'.cell? ⟨k, o, none⟩ = us[o]? := fun k o hk ho => by
    have := hown.cells hk o (us[o]'(by omega)) (by simp [show o < us.length by omega])
    rw [add_plain0] at this
    simp only [Nat.zero_add] at this
    rw [this]
    simp [show o < us.length by omega]
  have hfresh : ∀ k, hh.ownBlock = some k → G.own b ≠ some k → ∀ o, G.dat k o = none := fun k hk hne o => by
    rcases hnew with e1 | ⟨k', e1, e2⟩
    · exact absurd (e1 ▸ hk) hne
    · rw [hk] at e1
      obtain rfl := Option.some.inj e1
      cases hd : G.dat k o with
      | none => rfl
      | some v => have := h.dat_lt hd; omega
  have hDle : ∀ k o v, G.dat k o = some v → D k o = some v := fun k o v hv => by
    rw [hD]
    by_cases c : hh.ownBlock = some k ∧ o < xs.length * sz
    · simp only [c, and_self, if_true]
      by_cases e1 : G.own b = some k
      · rw [← hcell k o c.1 c.2]
        exact hold k o v e1 hv
      · rw [hfresh k c.1 e1 o] at hv; cases hv
    · simp only [c, if_false]; exact hv
  obtain ⟨G', hG⟩ : ∃ G' : Gh, G' = ⟨D, G.blk, fun i => if i = b then some (sz, xs, hh) else G.ls i⟩ := ⟨_, rfl⟩
  have hle : G.Le G' := by
    subst hG
    refine ⟨hDle, fun _ _ h => h, fun i sz0 xs0 h0 hi => ?_⟩
    by_cases c : i = b
    · subst c
      obtain ⟨ys, rfl, rfl, h3⟩ := hls sz0 xs0 h0 hi
      exact ⟨ys, hh, by simp, h3⟩
    · exact ⟨[], h0, by simpa [c] using hi, fun _ => rfl⟩
  have hlb : G'.ls b = some (sz, xs, hh) := by subst hG; simp
  have hrp : RP G'.dat (.lst sz xs) hh := by
    have hr' := hr.mono (dat' := D) hDle
    have hdat' : G'.dat = D := by subst hG; rfl
    rw [hdat']
    rcases hown.2 with ⟨rfl, h0⟩ | ⟨gg, cap, cur, rfl, _, _, hc, hm, _⟩
    · have : xs = [] := List.eq_nil_of_length_eq_zero h0
      subst this
      exact RP.nil_lst _
    · exact hr'.lst (fun o ho => by rw [hD]; simp [Value.ownBlock, ho]) hc hm
  have hownG : ∀ i, i ≠ b → G'.own i = G.own i := fun i hi => by subst hG; simp [Gh.own, hi]
  have hownb : G'.own b = hh.ownBlock := by subst hG; simp [Gh.own, hnb]
  have hother : ∀ i k, i ≠ b → G.own i = some k → w'.heap[k]? = w.heap[k]? ∧ ∀ o, G.dat k o = none → G'.dat k o = none := by
    intro i k hi hk
    have hne : G.own b ≠ some k := fun e => hi (h.inj i b k hk e)
    have hlt := (h.own_lt hk).2
    refine ⟨hkeep k hlt hne, fun o ho => ?_⟩
    subst hG
    show D k o = none
    rw [hD]
    have : ¬ (hh.ownBlock = some k ∧ o < xs.length * sz) := fun c => by
      rcases hnew with e1 | ⟨k', e1, e2⟩
      · exact hne (e1 ▸ c.1)
      · rw [c.1] at e1
        obtain rfl := Option.some.inj e1
        omega
    simp only [this, if_false]
    exact ho
  have hlow : ∀ k, hh.ownBlock = some k → cx.base ≤ k := fun k hk => (hown.lt k hk).1
  refine ⟨G', hle, hlb, hrp, ⟨fun t => (h.tm t).mono hle, h.sz, h.df, fun k o v hv => ?_, fun i B hi => ?_, fun i k hi => ?_, fun i x hi => ?_, fun i i' k hi hi' => ?_, hbel, fun k o hk => ?_, fun gg cs hg => (h.glo gg cs hg).mono hle, h.bas⟩⟩
  · have hv' : D k o = some v := by subst hG; exact hv
    rw [hD] at hv'
    by_cases c : hh.ownBlock = some k ∧ o < xs.length * sz
    · simp only [c, and_self, if_true] at hv'
      rw [hcell k o c.1 c.2]
      exact hv'
    · simp only [c, if_false] at hv'
      by_cases e1 : G.own b = some k
      · exact hold k o v e1 hv'
      · rw [← h.dat k o v hv']
        exact World.cell?_of_block (w := w) (hkeep k (h.dat_lt hv') e1)
  · simp only [St.box, look_cons] at hi
    by_cases c : b = i
    · subst c
      rw [if_pos rfl] at hi
      obtain rfl := Option.some.inj hi
      refine ⟨hh, us, hlb, hsz, hown, hrp, fun k hk o ho => ?_⟩
      subst hG
      show D k o = none
      rw [hD]
      have : ¬ (hh.ownBlock = some k ∧ o < xs.length * sz) := by omega
      simp only [this, if_false]
      by_cases e1 : G.own b = some k
      · exact hdat k hk e1 o ho
      · exact hfresh k hk e1 o
    · rw [if_neg c] at hi
      have c' : i ≠ b := fun e => c e.symm
      exact (h.bx i B hi).keep hle (by subst hG; simp [c']) (fun k hk => hother i k c' (h.own_var hk)) (fun x k hx hk => hother i k c' ((h.own_lst hx).trans hk))
  · simp only [St.box, look_cons]
    have hi' : G.blk i = some k := by subst hG; exact hi
    by_cases c : b = i
    · subst c; rw [hnb] at hi'; cases hi'
    · rw [if_neg c]; exact h.gb i k hi'
  · simp only [St.box, look_cons]
    by_cases c : b = i
    · subst c; exact ⟨e, sz, xs, by simp⟩
    · rw [if_neg c]
      have c' : i ≠ b := fun e => c e.symm
      refine h.gl i x ?_
      subst hG
      simpa [c'] using hi
  · by_cases c : i = b
    · by_cases c2 : i' = b
      · rw [c, c2]
      · subst c
        rw [hownb] at hi
        rw [hownG i' c2] at hi'
        have hlt := (h.own_lt hi').2
        rcases hnew with e1 | ⟨k', e1, e2⟩
        · exact h.inj i i' k (e1 ▸ hi) hi'
        · rw [hi] at e1; obtain rfl := Option.some.inj e1; omega
    · by_cases c2 : i' = b
      · subst c2
        rw [hownb] at hi'
        rw [hownG i c] at hi
        have hlt := (h.own_lt hi).2
        rcases hnew with e1 | ⟨k', e1, e2⟩
        · exact h.inj i i' k hi (e1 ▸ hi')
        · rw [hi'] at e1; obtain rfl := Option.some.inj e1; omega
      · rw [hownG i c] at hi
        rw [hownG i' c2] at hi'
        exact h.inj i i' k hi hi'
  · have : ¬ (hh.ownBlock = some k ∧ o < xs.length * sz) := fun c => by have := hlow k c.1; omega
    subst hG
    show D k o = _
    rw [hD]
    simp only [this, if_false]
    exact h.low k o hk

/-- The cells that an append reads. -/
theorem RP.source (h : SR cx s a w G) {sz : Nat} {ys : List PV} {A : Option Addr} {m c : Nat} (hp : RP G.dat (.lst sz ys) (.slice A m c)) : m = ys.length ∧ (A = none → m = 0) ∧ ∃ news, RowsOf G.dat sz ys news ∧ (∀ u ∈ news, u.oneCell' = true) ∧
    ∀ ad, A = some ad → ∀ (j : Nat) u, news[j]? = some u → w.cell? (ad.add j) = some u := by
  cases hp with
  | lst _ _ _ _ _ hn hc hm hz h1 hnone hspot hdat hrp =>
    refine ⟨hn, fun e => by rw [hn, hnone e]; rfl, ?_⟩
    cases A with
    | none =>
      obtain rfl := hnone rfl
      exact ⟨[], ⟨by simp, hz, h1, fun i j e x v he => by simp at he⟩, fun u hu => by simp at hu, fun ad h => by cases h⟩
    | some ad =>
      by_cases hsz0 : sz = 0
      · subst hsz0
        refine ⟨[], ⟨by simp, hz, h1, fun i j e x v he hx hv => by simp at hv⟩, fun u hu => by simp at hu, fun ad' _ j u hu => by simp at hu⟩
      · have hpos : 0 < sz := Nat.pos_of_ne_zero hsz0
        have hpick : ∀ q, q < ys.length * sz → ∃ v, G.dat ad.block (ad.off + q) = some v ∧ ∀ (i j : Nat) e x, ys[i]? = some e → e.cells[j]? = some x → i * sz + j = q → RP G.dat x v ∧ x.one = true := by
          intro q hq
          have hi : q / sz < ys.length := (Nat.div_lt_iff_lt_mul hpos).2 hq
          have hjz : (ys[q / sz]).cells.length = sz := hz _ (List.getElem_mem hi)
          have hj : q % sz < (ys[q / sz]).cells.length := by rw [hjz]; exact Nat.mod_lt _ hpos
          have heq : q / sz * sz + q % sz = q := by rw [Nat.mul_comm]; exact Nat.div_add_mod q sz
          obtain ⟨v, hv⟩ := hdat ad (q / sz) (q % sz) _ _ rfl (List.getElem?_eq_getElem hi) (List.getElem?_eq_getElem hj)
          refine ⟨v, by rw [← heq]; exact hv, fun i j e x he hx hij => ?_⟩
          exact ⟨hrp ad i j e x v rfl he hx (by rw [hij, ← heq]; exact hv), h1 e (List.mem_of_getElem? he) x (List.mem_of_getElem? hx)⟩
        have hex : ∃ f : Nat → Value, ∀ q, q < ys.length * sz → G.dat ad.block (ad.off + q) = some (f q) ∧ ∀ (i j : Nat) e x, ys[i]? = some e → e.cells[j]? = some x → i * sz + j = q → RP G.dat x (f q) ∧ x.one = true := by
          refine ⟨fun q => if hq : q < ys.length * sz then Classical.choose (hpick q hq) else undef, fun q hq => ?_⟩
          simp only [dif_pos hq]
          exact Classical.choose_spec (hpick q hq)
        obtain ⟨f, hf⟩ := hex
        have hget : ∀ (q : Nat) u, ((List.range (ys.length * sz)).map f)[q]? = some u → q < ys.length * sz ∧ u = f q := fun q u hu => by
          have hq := (List.getElem?_eq_some_iff.1 hu).1
          simp at hq
          simp [hq] at hu
          exact ⟨hq, hu.symm⟩
        refine ⟨(List.range (ys.length * sz)).map f, ⟨by simp, hz, h1, fun i j e x v he hx hv => ?_⟩, fun u hu => ?_, fun ad' hA j u hu => ?_⟩
        · obtain ⟨hq, rfl⟩ := hget _ _ hv
          exact ((hf _ hq).2 i j e x he hx rfl).1
        · obtain ⟨q, hq, rfl⟩ := List.mem_map.1 hu
          have hq := List.mem_range.1 hq
          have hi : q / sz < ys.length := (Nat.div_lt_iff_lt_mul hpos).2 hq
          have hjz : (ys[q / sz]).cells.length = sz := hz _ (List.getElem_mem hi)
          have hj : q % sz < (ys[q / sz]).cells.length := by rw [hjz]; exact Nat.mod_lt _ hpos
          have heq : q / sz * sz + q % sz = q := by rw [Nat.mul_comm]; exact Nat.div_add_mod q sz
          obtain ⟨r1, r2⟩ := (hf q hq).2 (q / sz) (q % sz) _ _ (List.getElem?_eq_getElem hi) (List.getElem?_eq_getElem hj) heq
          exact (r1.one r2).1
        · obtain rfl := Option.some.inj hA
          obtain ⟨hq, rfl⟩ := hget _ _ hu
          rw [add_spot ad (hspot ad rfl)]
          exact h.dat _ _ _ (hf j hq).1

theorem run_append_none {t ty e : TypeId} {i : TypeInfo} (ht : P.underlying t = some (.slice e)) (hi : P.info? e = some i) (A : Option Addr) (n c : Nat) (hc : n ≤ c) (cc : Nat) :
    (Builtin.append_ #[t, t] ty #[.slice A n c, .slice none 0 cc]).run P w = .ok (.slice A n c) w := by
  cases A with
  | none => simp [Builtin.append_, run_underlying ht, sizeOf, typeInfo, hi, Builtin.lenOf, Builtin.firstCells, hc]
  | some a => simp [Builtin.append_, run_underlying ht, sizeOf, typeInfo, hi, Builtin.lenOf, Builtin.firstCells, hc, storeCells]

/-- An append to a slice of the call's own. -/
theorem OpOk.append {d : Tmp} {t e : TypeId} {y x : Operand} {ty : TypeId} {pos : String} {after : Array Edge} {gd : Option (Nat × Bool)} {i ie : TI} {b n sz : Nat} {xs ys zs : List PV} {z : AV}
    (ht : tiOf P t = some i) (hk : i.desc = .slc e) (he : tiOf P e = some ie) (hy : s.ev g y = .gl b n) (hb : look s.bx b = some (.lst e sz xs)) (hn : n = xs.length) (hx : s.ev g x = z) (hl : s.lstOf z = some (sz, ys)) (hsz : sz = ie.size) (hzl : ie.zero.length = ie.size) (hpos : 0 < ie.size)
    (hb1 : (xs.length + ys.length) * ie.bytes ≤ 140737488355328) (hb2 : xs.length + ys.length ≤ maxLen) (hzs : xs ++ ys = zs) (hd : d < s.n) :
    OpOk P g ⟨some d, .call { callee := .builtin .append, args := #[y, x], argTypes := #[t, t] }, ty, pos, after, gd⟩ s ((s.box b (.lst e sz zs)).put d (.gl b zs.length)) := by
  intro cx a w G hP hg hs K Q hK
  subst hzs
  subst hn
  subst hsz
  obtain ⟨inf, z0, dd, i1, i2, i3, i4, i5, i6, i7⟩ := tiOf_ok he
  obtain ⟨hh, us, g1, g2, g3, g4, g5, g6⟩ := hs.rows hb
  have hy' := hs.ev hg y
  rw [hy] at hy'
  have hyv : a.eval y = hh := by
    generalize a.eval y = v at hy'
    cases hy' with
    | gl _ _ _ sz' xs' h' hb' hn' hp' hv' =>
      rw [g1] at hb'
      obtain ⟨rfl, h3⟩ := Prod.mk.inj (Option.some.inj hb')
      obtain ⟨rfl, rfl⟩ := Prod.mk.inj h3
      exact hv' rfl
  have hxr := hs.lst (hs.ev hg x) (by rw [hx]; exact hl)
  have hxv : ∃ A m c, a.eval x = .slice A m c := by
    generalize a.eval x = v at hxr
    cases hxr with
    | lst _ _ A m c => exact ⟨A, _, c, rfl⟩
  obtain ⟨A, m, c, hxe⟩ := hxv
  rw [hxe] at hxr
  obtain ⟨q1, q2, news, q3, q4, q5⟩ := RP.source hs hxr
  have hu := tiOf_slc ht hk
  have hcells : z0.cells.size = inf.size := by
    have := (pvOfs_ok (G := G) _ _ i7).1
    rw [Array.length_toList] at this
    rw [this, hzl, i4]
  have hown0 := hs.own_lst g1
  have key : ∃ v' w', (Builtin.append_ #[t, t] ty #[hh, .slice A m c]).run P w = .ok v' w' ∧ w'.ownsRow cx.base e ie.size v' (xs.length + ys.length) (us ++ news) ∧ w.grownBy w' hh.ownBlock ∧
      (v'.ownBlock = hh.ownBlock ∨ ∃ k, v'.ownBlock = some k ∧ w.heap.size ≤ k ∧ ∀ j, j < w.heap.size → w'.heap[j]? = w.heap[j]?) ∧ (ys = [] → v' = hh) := by
    cases A with
    | none =>
      have hm0 := q2 rfl
      have hys : ys = [] := List.eq_nil_of_length_eq_zero (by omega)
      subst hys
      have hnews : news = [] := List.eq_nil_of_length_eq_zero (by rw [q3.len]; simp)
      subst hnews
      subst hm0
      have hsl : ∃ A' c', hh = .slice A' xs.length c' ∧ xs.length ≤ c' := by
        rcases g3.2 with ⟨e1, e2⟩ | ⟨gg, cap, cur, e1, _, _, hc, _⟩
        · exact ⟨none, 0, by rw [e1, e2], by omega⟩
        · exact ⟨_, _, e1, hc⟩
      obtain ⟨A', c', e1, e2⟩ := hsl
      refine ⟨hh, w, ?_, by simpa using g3, ⟨rfl, rfl, rfl, Nat.le_refl _, fun _ _ _ => rfl⟩, .inl rfl, fun _ => rfl⟩
      rw [e1]
      exact run_append_none hu i1 A' _ c' e2 c
    | some ad =>
      obtain ⟨v', w', r1, r2, r3, r4, r5⟩ := run_append3 (P := P) w cx.base t ty e inf z0 hu i1 i6 hcells (by rw [i4]; exact hpos) hh xs.length us (by rw [i4]; exact g3) ad m c news (by rw [q3.len, q1, i4]) (fun j u hu => q5 ad rfl j u hu) q4
        (by rw [q1]; exact hb2) (by rw [q1, i5]; exact hb1) hs.basele
      rw [q1, i4] at r2
      exact ⟨v', w', r1, r2, r3, r4, fun hys => r5 (by rw [q1, hys]; rfl)⟩
  obtain ⟨v', w', r1, r2, r3, r4, r5⟩ := key
  have hsame : ∀ k, k < w.heap.size → G.own b ≠ some k → w'.heap[k]? = w.heap[k]? := fun k hk hne => r3.block k hk (fun e => hne (by rw [hown0]; exact e.symm))
  have holdc : ∀ k o v, G.own b = some k → G.dat k o = some v → w'.cell? ⟨k, o, none⟩ = some v := by
    intro k o v hk hv
    rw [hown0] at hk
    have ho : o < xs.length * ie.size := by
      cases Nat.lt_or_ge o (xs.length * ie.size) with
      | inl h => exact h
      | inr h => rw [g6 k hk o h] at hv; cases hv
    have hc1 := hs.dat k o v hv
    have hc2 := g3.cells hk o (us[o]'(by rw [g4.len]; exact ho)) (by simp [g4.len, ho])
    rw [add_plain0] at hc2
    simp only [Nat.zero_add] at hc2
    rw [hc1] at hc2
    obtain rfl := Option.some.inj hc2
    rcases r4 with e1 | ⟨k', e1, e2⟩
    · have := r2.cells (e1.trans hk) o (us[o]'(by rw [g4.len]; exact ho)) (by rw [List.getElem?_append_left (by rw [g4.len]; exact ho)]; simp [g4.len, ho])
      rw [add_plain0] at this
      simpa using this
    · rw [← hc1]
      exact World.cell?_of_block (w := w) (e2.2 k (g3.lt k hk).2)
  obtain ⟨G', k1, k2, k3, k4⟩ := hs.growLst (w' := w') (b := b) (e := e) (sz := ie.size) (xs := xs ++ ys) (hh := v') (us := us ++ news) g2 (hs.lst_blk hb) (by rw [List.length_append]; exact r2) (g4.append q3)
    (hs.bel.grown r3 hs.basele (fun k hk => (g3.lt k hk).1)) r3.size hsame holdc
    (by
      rcases r4 with e1 | ⟨k', e1, e2, _⟩
      · exact .inl (e1.trans hown0.symm)
      · exact .inr ⟨k', e1, e2⟩)
    (fun k _ hk o ho => g6 k (by rw [hown0] at hk; exact hk) o (by rw [List.length_append, Nat.add_mul] at ho; omega))
    (fun sz0 xs0 h0 hq => by
      rw [g1] at hq
      obtain ⟨rfl, h3⟩ := Prod.mk.inj (Option.some.inj hq)
      obtain ⟨rfl, rfl⟩ := Prod.mk.inj h3
      exact ⟨ys, rfl, rfl, r5⟩)
  have hrun : (execOp a.eval ⟨some d, .call { callee := .builtin .append, args := #[y, x], argTypes := #[t, t] }, ty, pos, after, gd⟩).run P w = .ok (.value v') w' := by
    simp only [execOp, resolve, invoke, builtin, Sem.run_bind, Sem.run_pure, Result.andThen_ok, List.map_toArray, List.map_cons, List.map_nil, hyv, hxe]
    obtain ⟨_, _, r1', _⟩ : ∃ (_ : Unit) (_ : Unit), (Builtin.append_ #[t, t] ty #[hh, .slice A m c]).run P w = .ok v' w' ∧ True := ⟨(), (), r1, trivial⟩
    rw [r1']
    rfl
  unfold Oper.wp
  rw [hrun]
  refine hK _ _ G' (k4.put hd (.gl b _ v' ie.size (xs ++ ys) v' k2 (Nat.le_refl _) ?_ (fun _ => rfl)))
  rw [List.take_length]
  exact k3
end
end Go.Proofs.YtcbdhdblchmofaaDoor.Vm
