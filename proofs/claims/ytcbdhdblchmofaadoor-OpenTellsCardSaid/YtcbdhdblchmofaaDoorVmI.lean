/- The value machine, ninth part: aggregates built, slices made, texts and bytes. Conditions: none. -/
import Derived.Test.YtcbdhdblchmofaaDoorVmH
namespace Go.Proofs.YtcbdhdblchmofaaDoor.Vm
open Go Go.RowKit
set_option linter.unusedVariables false
set_option linter.unusedSimpArgs false

section
variable {P : Program} {g : Nat → Option (List PV)} {s s1 s' : St} {cx : Cx} {a : Act} {w : World} {G : Gh}

/-- A value that may stand in memory for good. -/
def St.pub1? (s : St) : AV → Option PV
  | .pv p => bif p.one then some p else none
  | y => (s.lstOf y).map fun q => .lst q.1 q.2
def pubs? (s : St) : List AV → Option (List PV)
  | [] => some []
  | x :: xs => match s.pub1? x, pubs? s xs with
    | some p, some ps => some (p :: ps)
    | _, _ => none
def St.pub? (s : St) : AV → Option PV
  | .agg cs => (pubs? s cs).map .agg
  | .pv p => some p
  | y => (s.lstOf y).map fun q => .lst q.1 q.2
theorem SR.pub1 (h : SR cx s a w G) {x : AV} {v : Value} {p : PV} (hx : RA G x v) (hp : s.pub1? x = some p) : RP G.dat p v ∧ p.one = true := by
  cases x with
  | pv q =>
    simp only [St.pub1?] at hp
    cases ho : q.one with
    | false => rw [ho] at hp; cases hp
    | true =>
      rw [ho] at hp
      obtain rfl := Option.some.inj hp
      cases hx with | pv _ _ hx => exact ⟨hx, ho⟩
  | gl b n =>
    simp only [St.pub1?, Option.map_eq_some_iff] at hp
    obtain ⟨q, hq, rfl⟩ := hp
    exact ⟨h.lst hx hq, rfl⟩
  | _ => simp [St.pub1?, St.lstOf] at hp
theorem SR.pubs (h : SR cx s a w G) : ∀ (xs : List AV) (ps : List PV) (vs : List Value), pubs? s xs = some ps → vs.length = xs.length → (∀ (i : Nat) x v, xs[i]? = some x → vs[i]? = some v → RA G x v) →
    ps.length = xs.length ∧ (∀ p ∈ ps, p.one = true) ∧ (∀ (i : Nat) p v, ps[i]? = some p → vs[i]? = some v → RP G.dat p v)
  | [], ps, vs, hp, hl, hr => by
    obtain rfl := Option.some.inj hp
    exact ⟨rfl, fun p hp => by simp at hp, fun i p v hp => by simp at hp⟩
  | x :: xs, ps, vs, hp, hl, hr => by
    cases vs with
    | nil => simp at hl
    | cons v vs =>
      simp only [pubs?] at hp
      split at hp
      · rename_i p ps' h1 h2
        obtain rfl := Option.some.inj hp
        obtain ⟨e1, e2⟩ := h.pub1 (hr 0 x v rfl rfl) h1
        obtain ⟨k1, k2, k3⟩ := SR.pubs h xs ps' vs h2 (by simpa using hl) (fun i y u hy hu => hr (i + 1) y u (by simpa using hy) (by simpa using hu))
        refine ⟨by simp [k1], fun q hq => ?_, fun i q u hq hu => ?_⟩
        · cases hq with
          | head => exact e2
          | tail _ hq => exact k2 q hq
        · cases i with
          | zero => simp at hq hu; subst hq; subst hu; exact e1
          | succ i => exact k3 i q u (by simpa using hq) (by simpa using hu)
      · cases hp
/-- The cells of a value that is published. -/
theorem SR.pub (h : SR cx s a w G) {x : AV} {v : Value} {p : PV} {sz : Nat} (hx : RA G x v) (hp : s.pub? x = some p) (hsz : p.cells.length = sz) (h1 : ∀ q ∈ p.cells, q.one = true) :
    v.cells.size = sz ∧ (∀ (i : Nat) q u, p.cells[i]? = some q → v.cells[i]? = some u → RP G.dat q u) ∧ ∀ u ∈ v.cells.toList, u.oneCell' = true := by
  have single : RP G.dat p v → p.one = true → v.cells.size = sz ∧ (∀ (i : Nat) q u, p.cells[i]? = some q → v.cells[i]? = some u → RP G.dat q u) ∧ ∀ u ∈ v.cells.toList, u.oneCell' = true := by
    intro hr ho
    obtain ⟨e1, e2⟩ := hr.one ho
    have hc : p.cells = [p] := by cases p <;> first | rfl | cases ho
    rw [e2]
    rw [hc] at hsz ⊢
    refine ⟨by simpa using hsz, fun i q u hq hu => ?_, fun u hu => ?_⟩
    · cases i with
      | zero => simp at hq hu; subst hq; subst hu; exact hr
      | succ i => simp at hq
    · simp at hu; subst hu; exact e1
  cases x with
  | pv q =>
    obtain rfl := Option.some.inj hp
    cases hx with
    | pv _ _ hx =>
      cases hq : q.one with
      | true => exact single hx hq
      | false =>
        cases q with
        | agg cs =>
          cases hx with
          | agg _ vs hl h2 h3 =>
            refine ⟨by rw [← hsz]; exact hl, h3, fun u hu => ?_⟩
            obtain ⟨i, hi, rfl⟩ := List.mem_iff_getElem.1 hu
            simp only [Array.length_toList, Value.cells] at hi
            have hlt : i < cs.length := by omega
            exact ((h3 i cs[i] vs[i] (by simp [hlt]) (by simp [hi])).one (h2 _ (List.getElem_mem hlt))).1
        | _ => cases hq
  | agg cs =>
    simp only [St.pub?, Option.map_eq_some_iff] at hp
    obtain ⟨ps, hps, rfl⟩ := hp
    cases hx with
    | agg _ vs hl h2 =>
      obtain ⟨k1, k2, k3⟩ := h.pubs cs ps vs.toList hps (by simpa using hl) (fun i y u hy hu => h2 i y u hy (by rwa [Array.getElem?_toList] at hu))
      refine ⟨?_, fun i q u hq hu => k3 i q u hq (show vs.toList[i]? = some u by rw [Array.getElem?_toList]; exact hu), fun u hu => ?_⟩
      · show vs.size = sz
        rw [← hsz, hl, ← k1]; rfl
      · obtain ⟨i, hi, rfl⟩ := List.mem_iff_getElem.1 hu
        simp only [Array.length_toList, Value.cells] at hi
        have hlt : i < ps.length := by omega
        exact ((k3 i ps[i] vs[i] (by simp [hlt]) (by simp [Value.cells, hi])).one (k2 _ (List.getElem_mem hlt))).1
  | gl b n =>
    simp only [St.pub?, Option.map_eq_some_iff] at hp
    obtain ⟨q, hq, rfl⟩ := hp
    exact single (h.lst hx hq) rfl
  | _ => simp [St.pub?, St.lstOf] at hp

/-- Nil, in a variable that will grow. -/
theorem OpOk.assignNil {d : Tmp} {y : Operand} {ty e sz : Nat} {pos : String} {after : Array Edge} {gd : Option (Nat × Bool)} (b : Nat) (hy : s.ev g y = .pv .nil) (hb : look s.bx b = none) (hsz : 0 < sz) (hd : d < s.n) :
    OpOk P g ⟨some d, .assign y, ty, pos, after, gd⟩ s ((s.box b (.lst e sz [])).put d (.gl b 0)) := by
  intro cx a w G hP hg hs K Q hK
  have h1 := hs.ev hg y
  rw [hy] at h1
  have h1 : a.eval y = .slice none 0 0 := h1.of_val rfl
  have hown : G.own b = none := by simp [Gh.own, hs.blk_none hb, hs.ls_none hb]
  obtain ⟨G', k1, k2, k3, k4⟩ := hs.growLst (w' := w) (b := b) (e := e) (sz := sz) (xs := []) (hh := .slice none 0 0) (us := []) hsz (hs.blk_none hb) (World.ownsRow_nil w cx.base e sz)
    ⟨by simp, fun e he => by simp at he, fun e he => by simp at he, fun i j e x v he => by simp at he⟩ hs.bel (Nat.le_refl _) (fun _ _ _ => rfl) (fun k o v hk => by rw [hown] at hk; cases hk) (.inl (by rw [hown]; rfl))
    (fun k hk => by cases hk) (fun sz0 xs0 h0 hq => by rw [hs.ls_none hb] at hq; cases hq)
  have hrun : (execOp a.eval ⟨some d, .assign y, ty, pos, after, gd⟩).run P w = .ok (.value (.slice none 0 0)) w := by
    simp only [execOp, h1]
    rfl
  unfold Oper.wp
  rw [hrun]
  exact hK _ _ G' (k4.put hd (.gl b 0 _ sz [] _ k2 (Nat.le_refl _) (RP.nil_lst sz) (fun _ => rfl)))

/-- A new row of cells, as a slice of the call's own. -/
theorem SR.newLst (h : SR cx s a w G) {b e sz : Nat} (hb : look s.bx b = none) {xs : List PV} {cells : Array Value} (hsz : 0 < sz) (hr : RowsOf G.dat sz xs cells.toList) (hm : xs.length ≤ maxLen) :
    ∃ G', SR cx (s.box b (.lst e sz xs)) a (w.alloc (.cells cells e)) G' ∧ RA G' (.gl b xs.length) (.slice (some ⟨w.heap.size, 0, none⟩) xs.length xs.length) := by
  have hown : G.own b = none := by simp [Gh.own, h.blk_none hb, h.ls_none hb]
  have hlen := hr.len
  have hrow : (w.alloc (.cells cells e)).ownsRow cx.base e sz (.slice (some ⟨w.heap.size, 0, none⟩) xs.length xs.length) xs.length cells.toList :=
    ⟨hlen, .inr ⟨w.heap.size, xs.length, cells, rfl, h.basele, heap_alloc_new w _, Nat.le_refl _, hm, by simpa using hlen, by rw [← hlen]; exact List.take_length⟩⟩
  obtain ⟨G', k1, k2, k3, k4⟩ := h.growLst (w' := w.alloc (.cells cells e)) (b := b) (e := e) (sz := sz) (xs := xs) (hh := .slice (some ⟨w.heap.size, 0, none⟩) xs.length xs.length) (us := cells.toList) hsz (h.blk_none hb) hrow hr
    (h.bel.alloc h.basele _) (by simp) (fun k hk _ => heap_alloc_old w _ k hk) (fun k o v hk => by rw [hown] at hk; cases hk) (.inr ⟨_, rfl, Nat.le_refl _⟩)
    (fun k _ hk => by rw [hown] at hk; cases hk) (fun sz0 xs0 h0 hq => by rw [h.ls_none hb] at hq; cases hq)
  exact ⟨G', k4, .gl b _ _ sz xs _ k2 (Nat.le_refl _) (by rw [List.take_length]; exact k3) (fun _ => rfl)⟩

/-- One part of a literal laid into its place. -/
theorem setAt_cons {α : Type} {L cs : List α} {k : Nat} {c : α} (h : k + 1 + cs.length ≤ L.length) : setAt (L.set k c) (k + 1) cs = setAt L k (c :: cs) := by
  unfold setAt
  have e1 : (L.set k c).take (k + 1) = L.take k ++ [c] := by
    rw [List.set_eq_take_append_cons_drop, if_pos (by omega), List.take_append]
    have : (L.take k).length = k := by simp; omega
    rw [this, List.take_of_length_le (by omega)]
    simp
  have e2 : (L.set k c).drop (k + 1 + cs.length) = L.drop (k + (c :: cs).length) := by
    rw [List.drop_set_of_lt (by omega)]
    congr 1
    simp
    omega
  rw [e1, e2]
  simp
theorem fold_set (off : Nat) : ∀ (cs : List Value) (j : Nat) (cells : Array Value), off + j + cs.length ≤ cells.size → ((cs.zipIdx j).foldl (fun (cs : Array Value) (c : Value × Nat) => cs.setIfInBounds (off + c.2) c.1) cells).toList = setAt cells.toList (off + j) cs
  | [], j, cells, h => by simp [setAt]
  | c :: cs, j, cells, h => by
    simp only [List.zipIdx_cons, List.foldl_cons]
    simp only [List.length_cons] at h
    rw [fold_set off cs (j + 1) _ (by simp; omega), Array.toList_setIfInBounds]
    exact setAt_cons (by simp; omega)
theorem fold_arr (off : Nat) (cs cells : Array Value) (h : off + cs.size ≤ cells.size) : (cs.zipIdx.foldl (fun (acc : Array Value) (c : Value × Nat) => acc.setIfInBounds (off + c.2) c.1) cells).toList = setAt cells.toList off cs.toList := by
  rw [← Array.foldl_toList, Array.toList_zipIdx]
  exact fold_set off cs.toList 0 cells (by simpa using h)

/-- The parts of a literal, one after the other. -/
def fillAV (place : Nat → Option (Nat × Nat)) (s : St) (g : Nat → Option (List PV)) (cells : List AV) : List (Nat × Operand) → Option (List AV)
  | [] => some cells
  | (i, x) :: rest => match place i, (s.ev g x).cells? with
    | some (off, size), some ys => bif Nat.beq ys.length size && Nat.ble (off + ys.length) cells.length then fillAV place s g (setAt cells off ys) rest else none
    | _, _ => none
theorem run_fill (h : SR cx s a w G) (hg : cx.g = g) {place : Nat → Option (Nat × Nat)} : ∀ (parts : List (Nat × Operand)) (cells r : List AV) (cs : Array Value), fillAV place s g cells parts = some r → cs.size = cells.length → (∀ (i : Nat) x v, cells[i]? = some x → cs[i]? = some v → RA G x v) →
    ∃ rs, Instr.fill place cs (parts.map fun (i, x) => (i, a.eval x)) = some rs ∧ rs.size = r.length ∧ ∀ (i : Nat) x v, r[i]? = some x → rs[i]? = some v → RA G x v
  | [], cells, r, cs, hf, hl, hr => by
    obtain rfl := Option.some.inj hf
    exact ⟨cs, rfl, hl, hr⟩
  | (i, x) :: rest, cells, r, cs, hf, hl, hr => by
    simp only [fillAV] at hf
    split at hf
    · rename_i off size ys hp hy
      obtain ⟨e1, e2, e3⟩ := (h.ev hg x).cells hy
      cases hb : Nat.beq ys.length size && Nat.ble (off + ys.length) cells.length with
      | false => rw [hb] at hf; cases hf
      | true =>
        rw [hb] at hf
        simp only [cond_true] at hf
        rw [Bool.and_eq_true] at hb
        have hsz := Nat.eq_of_beq_eq_true hb.1
        have hle := Nat.le_of_ble_eq_true hb.2
        have hfold := fold_arr off (a.eval x).cells cs (by omega)
        obtain ⟨rs, k1, k2, k3⟩ := run_fill h hg rest (setAt cells off ys) r ((a.eval x).cells.zipIdx.foldl (fun (acc : Array Value) (c : Value × Nat) => acc.setIfInBounds (off + c.2) c.1) cs) hf
          (by rw [← Array.length_toList, hfold]; simp [setAt, e1, hl])
          (fun j u v hu hv => by
            rw [← Array.getElem?_toList, hfold] at hv
            exact setAt_pt (R := RA G) (cs := cells) (vs := cs.toList) (ys := ys) (us := (a.eval x).cells.toList) (fun j u v hu hv => hr j u v hu (by rwa [Array.getElem?_toList] at hv)) (fun j u v hu hv => e2 j u v hu (by rwa [Array.getElem?_toList] at hv)) (by simpa using hl) (by simpa using e1) hle j u v hu hv)
        refine ⟨rs, ?_, k2, k3⟩
        simp only [List.map_cons, Instr.fill, hp]
        rw [if_neg (by simp [e1, hsz]; omega)]
        exact k1
    · cases hf
theorem OpOk.build {dst : Option Tmp} {t : TypeId} {parts : Array (Nat × Operand)} {ty : TypeId} {pos : String} {after : Array Edge} {gd : Option (Nat × Bool)} {i : TI} {l : List (Nat × Nat)} {cs : List AV} (ht : tiOf P t = some i) (hl : laysOf P t = some l)
    (hf : fillAV (fun j => l[j]?) s g (i.zero.map .pv) parts.toList = some cs) (hd : ∀ t, dst = some t → t < s.n) : OpOk P g ⟨dst, .build t parts, ty, pos, after, gd⟩ s (s.putO dst (.agg cs)) := by
  refine OpOk.val (o := ⟨dst, .build t parts, ty, pos, after, gd⟩) hd (fun cx a w G hP hg hs => ?_)
  obtain ⟨inf, z, dd, i1, i2, i3, i4, i5, i6, i7⟩ := tiOf_ok ht
  obtain ⟨fs, f1, hfs, rfl⟩ := laysOf_ok hl
  obtain ⟨e1, e2⟩ := pvOfs_ok (G := G) _ _ i7
  obtain ⟨rs, k1, k2, k3⟩ := run_fill hs hg parts.toList _ cs z.cells hf (by simpa using e1) (fun j x v hx hv => e2 j x v hx (by rwa [Array.getElem?_toList]))
  refine ⟨.agg rs, ?_, .agg cs rs k2 k3⟩
  have hu := run_underlying f1 w
  have hz : (zeroValue t).run P w = .ok z w := by simp [zeroValue, typeInfo, i1, i6]
  have key : ∀ (fl : List Field) (acc : Array (Nat × Nat)), (∀ f ∈ fl, ∃ inf, P.info? f.type = some inf) → (fl.foldlM (m := Sem) (fun (bs : Array (Nat × Nat)) (f : Field) => do
      let b ← (do pure (f.offset, ← sizeOf f.type))
      pure (bs.push b)) acc).run P w = .ok (acc ++ (fl.map fun f => (f.offset, P.cellsOf f.type)).toArray) w := by
    intro fl
    induction fl with
    | nil => intro acc _; simp [Sem.run]
    | cons f fl ih =>
      intro acc hq
      obtain ⟨inf, hi⟩ := hq f (by simp)
      have h1 : (sizeOf f.type).run P w = .ok (P.cellsOf f.type) w := by simp [sizeOf, typeInfo, Program.cellsOf, hi]
      simp only [List.foldlM_cons, Sem.run_bind, h1, Result.andThen_ok, Sem.run_pure]
      rw [ih _ (fun f hf => hq f (by simp [hf]))]
      simp
  have hmap := key fs.toList #[] (fun f hf => by
    have := List.all_eq_true.1 hfs f hf
    exact Option.isSome_iff_exists.1 this)
  have hrun : (execOp a.eval ⟨dst, .build t parts, ty, pos, after, gd⟩).run P w = .ok (.value (.agg rs)) w := by
    simp only [execOp, Instr.build, Sem.run_bind, hz, hu, Result.andThen_ok]
    rw [Array.mapM_eq_foldlM, ← Array.foldlM_toList]
    have e3 : ∀ k : Array (Nat × Nat) → Sem Value, Result.andThen ((List.foldlM (m := Sem) (fun (bs : Array (Nat × Nat)) (f : Field) => do
        let b ← (do pure (f.offset, ← sizeOf f.type))
        pure (bs.push b)) #[] fs.toList).run P w) (fun x w => (k x).run P w) = (k (#[] ++ (fs.toList.map fun f => (f.offset, P.cellsOf f.type)).toArray)).run P w := fun k => by rw [hmap]; rfl
    refine Eq.trans (congrArg (fun r => Result.andThen r _) (e3 _)) ?_
    have e4 : (fun (j : Nat) => (fs.toList.map fun f => (f.offset, P.cellsOf f.type))[j]?) = fun (j : Nat) => (#[] ++ (fs.toList.map fun f => (f.offset, P.cellsOf f.type)).toArray)[j]? := by funext j; simp
    rw [e4] at k1
    simp only [Array.toList_map, k1]
    rfl
  exact hrun
end
end Go.Proofs.YtcbdhdblchmofaaDoor.Vm
