/- The value machine, third part: variables made and written, slices made and grown. Conditions: none. -/
import Derived.Test.YtcbdhdblchmofaaDoorVmB
namespace Go.Proofs.YtcbdhdblchmofaaDoor.Vm
open Go Go.RowKit
set_option linter.unusedVariables false
set_option linter.unusedSimpArgs false

theorem ownsRow_congr {w w' : World} {base e size n : Nat} {v : Value} {xs : List Value} (h : w.ownsRow base e size v n xs) (hb : ∀ k, v.ownBlock = some k → w'.heap[k]? = w.heap[k]?) : w'.ownsRow base e size v n xs := by
  refine ⟨h.1, ?_⟩
  rcases h.2 with hn | ⟨g, cap, cur, rfl, h1, h2, rest⟩
  · exact .inl hn
  · exact .inr ⟨g, cap, cur, rfl, h1, by rw [hb g rfl]; exact h2, rest⟩

theorem BoxOk.keep {c : Cx} {G G' : Gh} {w w' : World} {b : Nat} {B : Box} (h : BoxOk c G w b B) (hle : G.Le G') (hls : G'.ls b = G.ls b)
    (hk : ∀ k, G.blk b = some k → w'.heap[k]? = w.heap[k]? ∧ ∀ o, G.dat k o = none → G'.dat k o = none)
    (hl : ∀ x k, G.ls b = some x → x.2.2.ownBlock = some k → w'.heap[k]? = w.heap[k]? ∧ ∀ o, G.dat k o = none → G'.dat k o = none) : BoxOk c G' w' b B := by
  cases B with
  | var cs =>
    obtain ⟨k, ty, vs, h1, h2, h3, h4, h5, h6⟩ := h
    obtain ⟨e1, e2⟩ := hk k h1
    exact ⟨k, ty, vs, hle.blk b k h1, h2, by rw [e1]; exact h3, h4, fun i x v hx hv => (h5 i x v hx hv).mono hle, fun o => e2 o (h6 o)⟩
  | lst e sz xs =>
    obtain ⟨hh, us, h1, h2, h3, h4, h5⟩ := h
    exact ⟨hh, us, by rw [hls]; exact h1, h2, ownsRow_congr h3 (fun k hk' => (hl _ k h1 hk').1), h4.mono hle.dat, fun k hk' o ho => (hl _ k h1 hk').2 o (h5 k hk' o ho)⟩

section
variable {P : Program} {g : Nat → Option (List PV)} {s s1 s' : St} {cx : Cx} {a : Act} {w : World} {G : Gh}

theorem SR.blk_none (h : SR cx s a w G) {b : Nat} (hb : look s.bx b = none) : G.blk b = none := by
  cases hk : G.blk b with
  | none => rfl
  | some k => obtain ⟨cs, h1⟩ := h.gb b k hk; rw [hb] at h1; cases h1
theorem SR.ls_none (h : SR cx s a w G) {b : Nat} (hb : look s.bx b = none) : G.ls b = none := by
  cases hk : G.ls b with
  | none => rfl
  | some k => obtain ⟨e, sz, xs, h1⟩ := h.gl b k hk; rw [hb] at h1; cases h1
theorem SR.lst_blk (h : SR cx s a w G) {b e sz : Nat} {xs : List PV} (hb : look s.bx b = some (.lst e sz xs)) : G.blk b = none := by
  cases hk : G.blk b with
  | none => rfl
  | some k => obtain ⟨cs, h1⟩ := h.gb b k hk; rw [hb] at h1; cases h1
theorem SR.own_var (h : SR cx s a w G) {b k : Nat} (hk : G.blk b = some k) : G.own b = some k := by simp [Gh.own, hk]
theorem SR.own_lst (h : SR cx s a w G) {b : Nat} {x : Nat × List PV × Value} (hx : G.ls b = some x) : G.own b = x.2.2.ownBlock := by
  obtain ⟨e, sz, xs, hb⟩ := h.gl b x hx
  simp [Gh.own, h.lst_blk hb, hx]
/-- What a box owns lies in the call's own memory, and is there. -/
theorem SR.own_lt (h : SR cx s a w G) {b k : Nat} (hk : G.own b = some k) : cx.base ≤ k ∧ k < w.heap.size := by
  unfold Gh.own at hk
  split at hk
  · rename_i k' h1
    obtain rfl := Option.some.inj hk
    obtain ⟨cs, h2⟩ := h.gb b k' h1
    obtain ⟨k2, ty, vs, h3, h4, h5, _⟩ := h.bx b _ h2
    rw [h1] at h3
    obtain rfl := Option.some.inj h3
    exact ⟨h4, (Array.getElem?_eq_some_iff.1 h5).1⟩
  · rename_i h1
    rw [Option.bind_eq_some_iff] at hk
    obtain ⟨x, h2, h3⟩ := hk
    obtain ⟨e, sz, xs, h4⟩ := h.gl b x h2
    obtain ⟨hh, us, h5, h6, h7, _⟩ := h.bx b _ h4
    rw [h2] at h5
    obtain rfl := Option.some.inj h5
    exact h7.lt k h3
theorem SR.basele (h : SR cx s a w G) : cx.base ≤ w.heap.size := by rw [h.bas]; exact h.bel.size
theorem SR.dat_lt (h : SR cx s a w G) {b o : Nat} {v : Value} (hv : G.dat b o = some v) : b < w.heap.size :=
  World.block_lt_of_cell? w ⟨b, o, none⟩ (h.dat b o v hv)

/-- A new variable. -/
theorem SR.newVar (h : SR cx s a w G) {b : Nat} (hb : look s.bx b = none) (cs : List AV) (vs : Array Value) (ty : TypeId) (hl : vs.size = cs.length)
    (hv : ∀ (i : Nat) x v, cs[i]? = some x → vs[i]? = some v → RA G x v) :
    ∃ G', G.Le G' ∧ G'.blk b = some w.heap.size ∧ SR cx (s.box b (.var cs)) a (w.alloc (.cells vs ty)) G' := by
  have hbn := h.blk_none hb
  have hln := h.ls_none hb
  have hle : G.Le { G with blk := fun i => if i = b then some w.heap.size else G.blk i } :=
    ⟨fun _ _ _ h => h, fun i k hi => by
      by_cases e : i = b
      · subst e; rw [hbn] at hi; cases hi
      · simpa [e] using hi, fun i sz xs hh hi => ⟨[], hh, by simpa using hi, fun _ => rfl⟩⟩
  have hown : ∀ i k, Gh.own { G with blk := fun i => if i = b then some w.heap.size else G.blk i } i = some k → (i = b ∧ k = w.heap.size) ∨ (i ≠ b ∧ G.own i = some k) := by
    intro i k hi
    by_cases e : i = b
    · subst e
      simp [Gh.own] at hi
      exact .inl ⟨rfl, hi.symm⟩
    · simp [Gh.own, e] at hi
      exact .inr ⟨e, by simpa [Gh.own] using hi⟩
  have hold : ∀ k, k < w.heap.size → (w.alloc (.cells vs ty)).heap[k]? = w.heap[k]? := fun k hk => heap_alloc_old w _ k hk
  refine ⟨_, hle, by simp, ⟨fun t => (h.tm t).mono hle, h.sz, h.df, fun b' o v hv' => ?_, fun i B hi => ?_, fun i k hi => ?_, fun i x hi => ?_, fun i i' k hi hi' => ?_, h.bel.alloc h.basele _, h.low, fun gg cs' hg => (h.glo gg cs' hg).mono hle, h.bas⟩⟩
  · rw [← h.dat b' o v hv']
    exact World.cell?_of_block (w := w) (hold b' (h.dat_lt hv'))
  · simp only [St.box, look_cons] at hi
    by_cases e : b = i
    · subst e
      rw [if_pos rfl] at hi
      obtain rfl := Option.some.inj hi
      refine ⟨w.heap.size, ty, vs, by simp, h.basele, heap_alloc_new w _, hl, fun i x v hx hv' => (hv i x v hx hv').mono hle, fun o => ?_⟩
      cases hd : G.dat w.heap.size o with
      | none => rfl
      | some v => exact absurd (h.dat_lt hd) (Nat.lt_irrefl _)
    · rw [if_neg e] at hi
      refine (h.bx i B hi).keep hle rfl (fun k hk => ⟨hold k (h.own_lt (h.own_var hk)).2, fun o ho => ho⟩) (fun x k hx hk => ⟨hold k (h.own_lt ((h.own_lst hx).trans hk)).2, fun o ho => ho⟩)
  · simp only [St.box, look_cons]
    by_cases e : b = i
    · subst e; exact ⟨cs, by simp⟩
    · have : i ≠ b := fun x => e x.symm
      simp only [this, if_false] at hi
      rw [if_neg e]
      exact h.gb i k hi
  · simp only [St.box, look_cons]
    by_cases e : b = i
    · subst e; rw [hln] at hi; cases hi
    · rw [if_neg e]; exact h.gl i x hi
  · rcases hown i k hi with ⟨e1, e2⟩ | ⟨e1, e2⟩ <;> rcases hown i' k hi' with ⟨e3, e4⟩ | ⟨e3, e4⟩
    · rw [e1, e3]
    · have := (h.own_lt e4).2; omega
    · have := (h.own_lt e2).2; omega
    · exact h.inj i i' k e2 e4

/-- A variable written. -/
theorem SR.setVar (h : SR cx s a w G) {b k : Nat} {ty : TypeId} {cs cs' : List AV} {vs vs' : Array Value} (hb : look s.bx b = some (.var cs)) (hk : G.blk b = some k) (hh : w.heap[k]? = some (.cells vs ty (0, 0)))
    (hl : vs'.size = cs'.length) (hv : ∀ (i : Nat) x v, cs'[i]? = some x → vs'[i]? = some v → RA G x v) : SR cx (s.box b (.var cs')) a (w.setRow k vs') G := by
  have hlt := h.own_lt (h.own_var hk)
  have hoth : ∀ j, j ≠ k → (w.setRow k vs').heap[j]? = w.heap[j]? := fun j hj => setRow_other w k j vs' hj
  have hdk : ∀ o, G.dat k o = none := by
    obtain ⟨k', _, _, h1, _, _, _, _, h6⟩ := h.bx b _ hb
    rw [hk] at h1
    obtain rfl := Option.some.inj h1
    exact h6
  refine ⟨h.tm, h.sz, h.df, fun b' o v hv' => ?_, fun i B hi => ?_, fun i k' hi => ?_, fun i x hi => ?_, h.inj, ?_, h.low, h.glo, h.bas⟩
  · rw [← h.dat b' o v hv']
    exact World.cell?_of_block (w := w) (hoth b' (fun e => by subst e; rw [hdk o] at hv'; cases hv'))
  · simp only [St.box, look_cons] at hi
    by_cases e : b = i
    · subst e
      rw [if_pos rfl] at hi
      obtain rfl := Option.some.inj hi
      exact ⟨k, ty, vs', hk, hlt.1, setRow_heap w k vs vs' ty _ hh, hl, hv, hdk⟩
    · rw [if_neg e] at hi
      refine (h.bx i B hi).keep (Gh.Le.refl G) rfl (fun k' hk' => ⟨hoth k' (fun e2 => e ?_), fun o ho => ho⟩) (fun x k' hx hk' => ⟨hoth k' (fun e2 => e ?_), fun o ho => ho⟩)
      · subst e2; exact h.inj b i k' (h.own_var hk) (h.own_var hk')
      · subst e2; exact h.inj b i k' (h.own_var hk) ((h.own_lst hx).trans hk')
  · simp only [St.box, look_cons]
    by_cases e : b = i
    · subst e; exact ⟨cs', by simp⟩
    · rw [if_neg e]; exact h.gb i k' hi
  · simp only [St.box, look_cons]
    by_cases e : b = i
    · subst e
      obtain ⟨e1, sz, xs, h1⟩ := h.gl b x hi
      rw [hb] at h1; cases h1
    · rw [if_neg e]; exact h.gl i x hi
  · exact ⟨h.bel.os, h.bel.tape, h.bel.output, by simp [World.setRow, h.bel.size], fun j hj => (hoth j (by omega)).trans (h.bel.block j hj)⟩

def AV.one : AV → Bool
  | .pv p => p.one
  | .gl _ _ | .ptr _ _ | .vrow _ _ _ | .eptr _ | .clo _ _ => true
  | _ => false
def ones : List AV → Bool
  | [] => true
  | x :: xs => x.one && ones xs
theorem ones_mem : ∀ {l : List AV}, ones l = true → ∀ x ∈ l, x.one = true
  | [], _, x, h => by simp at h
  | y :: l, h, x, hx => by
    simp only [ones, Bool.and_eq_true] at h
    cases hx with
    | head => exact h.1
    | tail _ hx => exact ones_mem h.2 x hx
/-- The cells of a value. -/
def AV.cells? : AV → Option (List AV)
  | .agg cs => bif ones cs then some cs else none
  | .pv (.agg cs) => some (cs.map .pv)
  | .any | .tup _ => none
  | x => some [x]
theorem RP.one {dat : Nat → Nat → Option Value} {p : PV} {v : Value} (h : RP dat p v) (h1 : p.one = true) : v.oneCell' = true ∧ v.cells = #[v] := by
  cases h <;> first | exact ⟨rfl, rfl⟩ | cases h1
theorem RA.one {x : AV} {v : Value} (h : RA G x v) (h1 : x.one = true) : v.oneCell' = true ∧ v.cells = #[v] := by
  cases h with
  | pv p v h => exact h.one h1
  | gl b n v sz xs hh hb hn hp hv => exact hp.one rfl
  | ptr | vrow | eptr | clo => exact ⟨rfl, rfl⟩
  | _ => cases h1
theorem RA.cells {x : AV} {v : Value} {cs : List AV} (h : RA G x v) (hc : x.cells? = some cs) : v.cells.size = cs.length ∧ (∀ (i : Nat) y u, cs[i]? = some y → v.cells[i]? = some u → RA G y u) ∧ ∀ u ∈ v.cells.toList, u.oneCell' = true := by
  have single : ∀ y, x = y → y.one = true → cs = [y] → v.cells.size = cs.length ∧ (∀ (i : Nat) y u, cs[i]? = some y → v.cells[i]? = some u → RA G y u) ∧ ∀ u ∈ v.cells.toList, u.oneCell' = true := by
    rintro y rfl h1 rfl
    obtain ⟨e1, e2⟩ := h.one h1
    rw [e2]
    refine ⟨rfl, fun i y u hy hu => ?_, fun u hu => ?_⟩
    · cases i with
      | zero => simp at hy hu; subst hy; subst hu; exact h
      | succ i => simp at hy
    · simp at hu; subst hu; exact e1
  cases x with
  | any | tup => cases hc
  | agg xs =>
    simp only [AV.cells?] at hc
    cases ho : ones xs with
    | false => rw [ho] at hc; cases hc
    | true =>
      rw [ho] at hc
      obtain rfl := Option.some.inj hc
      cases h with
      | agg _ vs hl h =>
        refine ⟨hl, h, fun u hu => ?_⟩
        obtain ⟨i, hi, rfl⟩ := List.mem_iff_getElem.1 hu
        simp only [Array.length_toList, Value.cells] at hi
        have hlt : i < xs.length := by omega
        exact ((h i xs[i] vs[i] (by simp [hlt]) (by simp [hi])).one (ones_mem ho _ (List.getElem_mem hlt))).1
  | pv p =>
    cases p with
    | agg ps =>
      simp only [AV.cells?] at hc
      obtain rfl := Option.some.inj hc
      cases h with
      | pv _ _ h =>
        cases h with
        | agg _ vs hl h1 h =>
          refine ⟨by simp [Value.cells, hl], fun i y u hy hu => ?_, fun u hu => ?_⟩
          · rw [List.getElem?_map, Option.map_eq_some_iff] at hy
            obtain ⟨q, hq, rfl⟩ := hy
            exact .pv _ _ (h i q u hq hu)
          · obtain ⟨i, hi, rfl⟩ := List.mem_iff_getElem.1 hu
            simp only [Array.length_toList, Value.cells] at hi
            have hlt : i < ps.length := by omega
            exact ((h i ps[i] vs[i] (by simp [hlt]) (by simp [hi])).one (h1 _ (List.getElem_mem hlt))).1
    | _ => simp only [AV.cells?] at hc; exact single _ rfl rfl (Option.some.inj hc).symm
  | gl | ptr | vrow | eptr | clo => simp only [AV.cells?] at hc; exact single _ rfl rfl (Option.some.inj hc).symm

theorem OpOk.box {d : Tmp} {t : TypeId} {y : Operand} {ty : TypeId} {pos : String} {after : Array Edge} {gd : Option (Nat × Bool)} {z : AV} {cs : List AV} (b : Nat) (hy : s.ev g y = z) (hc : z.cells? = some cs) (hb : look s.bx b = none) (hd : d < s.n) :
    OpOk P g ⟨some d, .box t y, ty, pos, after, gd⟩ s ((s.box b (.var cs)).put d (.ptr b 0)) := by
  intro cx a w G hP hg hs K Q hK
  have h1 := hs.ev hg y
  rw [hy] at h1
  obtain ⟨e1, e2, e3⟩ := h1.cells hc
  obtain ⟨G', hle, hbk, hs'⟩ := hs.newVar hb cs (a.eval y).cells t e1 e2
  have hrun : (execOp a.eval ⟨some d, .box t y, ty, pos, after, gd⟩).run P w = .ok (.value (.pointer (some ⟨w.heap.size, 0, none⟩))) (w.alloc (.cells (a.eval y).cells t)) := by
    simp [execOp, Instr.box, newVar, newRow, newObj, Sem.run, World.alloc, -World.alloc_eq]
  unfold Oper.wp
  rw [hrun]
  exact hK _ _ G' (hs'.put hd (.ptr b 0 _ hbk))

theorem pvOfs_ok {G : Gh} : ∀ (vs : List Value) (cs : List PV), pvOfs vs = some cs → vs.length = cs.length ∧ (∀ (i : Nat) x v, (cs.map AV.pv)[i]? = some x → vs[i]? = some v → RA G x v)
  | [], cs, h => by
    simp only [pvOfs] at h
    obtain rfl := Option.some.inj h
    exact ⟨rfl, fun i x v hx => by simp at hx⟩
  | v :: vs, cs, h => by
    simp only [pvOfs] at h
    split at h
    · rename_i p ps h1 h2
      obtain rfl := Option.some.inj h
      obtain ⟨e1, e2⟩ := pvOfs_ok (G := G) vs ps h2
      refine ⟨by simp [e1], fun i x u hx hu => ?_⟩
      cases i with
      | zero => simp at hx hu; subst hx; subst hu; exact .pv _ _ (RP.ofVal h1)
      | succ i => exact e2 i x u (by simpa using hx) (by simpa using hu)
    · cases h
theorem OpOk.alloc {d : Tmp} {t : TypeId} {ty : TypeId} {pos : String} {after : Array Edge} {gd : Option (Nat × Bool)} {i : TI} (b : Nat) (ht : tiOf P t = some i) (hb : look s.bx b = none) (hd : d < s.n) :
    OpOk P g ⟨some d, .alloc t, ty, pos, after, gd⟩ s ((s.box b (.var (i.zero.map .pv))).put d (.ptr b 0)) := by
  intro cx a w G hP hg hs K Q hK
  obtain ⟨inf, z, dd, h1, h2, h3, h4, h5, h6, h7⟩ := tiOf_ok ht
  obtain ⟨e1, e2⟩ := pvOfs_ok (G := G) _ _ h7
  obtain ⟨G', hle, hbk, hs'⟩ := hs.newVar hb (i.zero.map .pv) z.cells t (by simpa using e1) (fun i x v hx hv => e2 i x v hx (by simpa using hv))
  have hz : (zeroValue t).run P w = .ok z w := by simp [zeroValue, typeInfo, h1, h6]
  have hrun : (execOp a.eval ⟨some d, .alloc t, ty, pos, after, gd⟩).run P w = .ok (.value (.pointer (some ⟨w.heap.size, 0, none⟩))) (w.alloc (.cells z.cells t)) := by
    simp [execOp, Instr.alloc, newVar, newRow, newObj, Sem.run_bind, hz, Sem.run, World.alloc, -World.alloc_eq, Result.andThen]
  unfold Oper.wp
  rw [hrun]
  exact hK _ _ G' (hs'.put hd (.ptr b 0 _ hbk))

def setAt {α : Type} (cs : List α) (o : Nat) (ys : List α) : List α := cs.take o ++ ys ++ cs.drop (o + ys.length)
theorem setAt_pt {α β : Type} {R : α → β → Prop} {cs ys : List α} {vs us : List β} {o : Nat} (h1 : ∀ (i : Nat) x v, cs[i]? = some x → vs[i]? = some v → R x v) (h2 : ∀ (i : Nat) x v, ys[i]? = some x → us[i]? = some v → R x v)
    (hl : vs.length = cs.length) (hu : us.length = ys.length) (ho : o + ys.length ≤ cs.length) : ∀ (i : Nat) x v, (setAt cs o ys)[i]? = some x → (setAt vs o us)[i]? = some v → R x v := by
  intro i x v hx hv
  unfold setAt at hx hv
  by_cases c1 : i < o
  · rw [List.getElem?_append_left (by simp; omega), List.getElem?_append_left (by simp; omega), List.getElem?_take, if_pos c1] at hx
    rw [List.getElem?_append_left (by simp; omega), List.getElem?_append_left (by simp; omega), List.getElem?_take, if_pos c1] at hv
    exact h1 i x v hx hv
  · by_cases c2 : i < o + ys.length
    · rw [List.getElem?_append_left (by simp; omega), List.getElem?_append_right (by simp; omega)] at hx
      rw [List.getElem?_append_left (by simp; omega), List.getElem?_append_right (by simp; omega)] at hv
      have e1 : (cs.take o).length = o := by simp; omega
      have e2 : (vs.take o).length = o := by simp; omega
      rw [e1] at hx
      rw [e2] at hv
      exact h2 _ x v hx hv
    · rw [List.getElem?_append_right (by simp; omega), List.getElem?_drop] at hx
      rw [List.getElem?_append_right (by simp; omega), List.getElem?_drop] at hv
      have e1 : o + ys.length + (i - (cs.take o ++ ys).length) = i := by simp; omega
      have e2 : o + us.length + (i - (vs.take o ++ us).length) = i := by simp; omega
      rw [e1] at hx
      rw [e2] at hv
      exact h1 i x v hx hv

theorem OpOk.store {t : TypeId} {y x : Operand} {ty : TypeId} {pos : String} {after : Array Edge} {gd : Option (Nat × Bool)} {i : TI} {b o : Nat} {z : AV} {cs ys cs' : List AV} (ht : tiOf P t = some i) (hy : s.ev g y = .ptr b o) (hx : s.ev g x = z)
    (hz : z.cells? = some ys) (hb : look s.bx b = some (.var cs)) (hn : ys.length = i.size) (ho : Nat.ble (o + ys.length) cs.length = true) (hcs : setAt cs o ys = cs') : OpOk P g ⟨none, .store t y x, ty, pos, after, gd⟩ s (s.box b (.var cs')) := by
  intro cx a w G hP hg hs K Q hK
  have ho := Nat.le_of_ble_eq_true ho
  have h1 := hs.ev hg y
  have h2 := hs.ev hg x
  rw [hy] at h1
  rw [hx] at h2
  obtain ⟨e1, e2, e3⟩ := h2.cells hz
  obtain ⟨k, tk, vs, b1, b2, b3, b4, b5, b6⟩ := hs.bx b _ hb
  generalize hv : a.eval y = v at h1
  cases h1 with
  | ptr _ _ k' hk =>
    rw [hk] at b1
    obtain rfl := Option.some.inj b1
    have hst := run_storeCells_at P k' o tk (a.eval x).cells.toList 0 vs w b3 (by simp [e1, b4]; omega) e3
    have hrun : (execOp a.eval ⟨none, .store t y x, ty, pos, after, gd⟩).run P w = .ok .skip (w.setRow k' (setAt vs.toList o (a.eval x).cells.toList).toArray) := by
      simp only [Nat.add_zero] at hst
      simp only [execOp, hv, Instr.storeAt, Instr.sureAddr, Sem.run_bind, Sem.run_pure, Result.andThen_ok, storeVar, tiOf_size ht w]
      rw [if_neg (by rw [e1, hn]; simp)]
      rw [hst]
      rfl
    unfold Oper.wp
    rw [hrun]
    refine hK _ _ G ?_
    subst hcs
    have hl' : (setAt vs.toList o (a.eval x).cells.toList).length = (setAt cs o ys).length := by simp [setAt, e1, b4]
    refine SR.setVar (s := s) hs hb hk b3 (by simpa using hl') (fun j u v' hu hv' => ?_)
    have q1 : ∀ (j : Nat) u v', cs[j]? = some u → vs.toList[j]? = some v' → RA G u v' := fun j u v' hu hv' => b5 j u v' hu (by rwa [Array.getElem?_toList] at hv')
    have q2 : ∀ (j : Nat) u v', ys[j]? = some u → (a.eval x).cells.toList[j]? = some v' → RA G u v' := fun j u v' hu hv' => e2 j u v' hu (by rwa [Array.getElem?_toList] at hv')
    exact setAt_pt (R := RA G) q1 q2 (by rw [Array.length_toList]; exact b4) (by rw [Array.length_toList]; exact e1) ho j u v' hu (by simpa using hv')
end
end Go.Proofs.YtcbdhdblchmofaaDoor.Vm
