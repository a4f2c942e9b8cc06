/- Rules for arrays of bytes that are read whole, written whole, compared; slices that are made. Conditions: none. -/
import Derived.Test.YtalcpfpjkfpmbaaRightS
import Derived.Test.YtalcpfpjkfpmbaaRowV
import Derived.ChangeKeysEq
import Derived.Laws.StructEq
namespace Go.Proofs.Ytalcpfpjkfpmbaa.Vm
open Go Go.RowKit
set_option linter.unusedVariables false
set_option linter.unusedSimpArgs false
section
variable {P : Program} {w : World}
theorem eq_items {e : TypeId} {k : IntKind} (he : P.underlying e = some (.int k)) (hp : P.plainKey e = true) (d : Nat) {S T : List Int} : ∀ is : List Nat, (∀ i ∈ is, i < S.length ∧ i < T.length) →
    (Op.eqItems (d + 1) e 1 (S.map (Value.int k)).toArray (T.map (Value.int k)).toArray is).run P w = .ok (is.all fun i => S[i]? == T[i]?) w
  | [], _ => by simp [Op.eqItems]
  | i :: is, h => by
    obtain ⟨h1, h2⟩ := h i (by simp)
    have p1 : (part e (S.map (Value.int k)).toArray (i * 1)).run P w = .ok (.int k S[i]) w := run_part_plain w hp (by simp [h1])
    have p2 : (part e (T.map (Value.int k)).toArray (i * 1)).run P w = .ok (.int k T[i]) w := run_part_plain w hp (by simp [h2])
    have p3 := run_equalIn_int (P := P) w d e k k S[i] T[i] he
    have ih := eq_items he hp d (S := S) (T := T) is (fun j hj => h j (List.mem_cons_of_mem _ hj))
    simp only [Op.eqItems, Sem.run_bind, p1, p2, p3, Result.andThen_ok]
    have e1 : (S[i]? == T[i]?) = (S[i] == T[i]) := by rw [List.getElem?_eq_getElem h1, List.getElem?_eq_getElem h2]; rfl
    simp only [List.all_cons, e1]
    cases (S[i] == T[i])
    · simp
    · simpa using ih
theorem all_eq {S T : List Int} {n : Nat} (hS : S.length = n) (hT : T.length = n) : ((List.range n).all fun i => S[i]? == T[i]?) = (S == T) := by
  rw [Bool.eq_iff_iff]
  simp only [List.all_eq_true, List.mem_range, beq_iff_eq]
  constructor
  · intro h
    refine List.ext_getElem? fun i => ?_
    by_cases c : i < n
    · exact h i c
    · rw [List.getElem?_eq_none (by omega), List.getElem?_eq_none (by omega)]
  · intro h i _; rw [h]
theorem OpOk.eqArr {g : Gb} {s : St} {dst : Option Tmp} {t t' e : TypeId} {y z : Operand} {ty : TypeId} {pos : String} {after : Array Edge} {gd : Option (Nat × Bool)} {k : IntKind} {i ie : TI} {len : Nat} {S T : List Int} {c : Bool} (ht : tiOf P t = some i) (hk : i.desc = .arr len e) (he : tiOf P e = some ie) (hek : ie.desc = .int k) (hez : ie.size = 1) (hpk : P.plainKey e = true)
    (hy : s.ev g y = .agg ((S.map (PV.int k)).map AV.pv)) (hz : s.ev g z = .agg ((T.map (PV.int k)).map AV.pv)) (hS : S.length = len) (hT : T.length = len) (hg0 : P.eqGuardType P.depth t = false) (hc : (S == T) = c)
    (hd : ∀ t, dst = some t → t < s.n) : OpOk P g ⟨dst, .binOp .eql t y z t', ty, pos, after, gd⟩ s (s.putO dst (.pv (.bool c))) := by
  refine OpOk.val (o := ⟨dst, .binOp .eql t y z t', ty, pos, after, gd⟩) hd (fun cx a w G hP hg hs => ⟨.bool c, ?_, .pv _ _ (.bool _)⟩)
  have h1 := hs.ev hg y
  have h2 := hs.ev hg z
  have im : ∀ L : List Int, (L.map (PV.int k)).map AV.pv = ints k L := fun L => by simp [ints]
  rw [hy, im] at h1
  rw [hz, im] at h2
  have hf : ∀ L : List Int, (AV.agg (ints k L)).flat? = some (.agg (L.map (Value.int k)).toArray) := fun L => by simp [AV.flat?, vals_ints]
  have e1 : a.eval y = .agg (S.map (Value.int k)).toArray := h1.of_flat (hf S)
  have e2 : a.eval z = .agg (T.map (Value.int k)).toArray := h2.of_flat (hf T)
  subst hP
  obtain ⟨a1, a2, a3⟩ := arr_facts ht hk
  rw [a1, a2] at a3
  obtain ⟨inf, z0, dd, i1, i2, i3, i4, i5, i6, i7⟩ := tiOf_ok he
  have hcell : cx.P.cellsOf e = 1 := by
    have := tiOf_size he w
    simp [Program.cellsOf, i1, i4, hez]
  have heu : cx.P.underlying e = some (.int k) := tiOf_int he hek
  have hr : (Op.equalIn 10000 t (.agg (S.map (Value.int k)).toArray) (.agg (T.map (Value.int k)).toArray)).run cx.P w = .ok c w := by
    rw [run_equalIn_array (P := cx.P) w 9999 _ _ a3 i1, hcell]
    have := eq_items (P := cx.P) (w := w) heu hpk 9998 (S := S) (T := T) (List.range len) (fun j hj => by have := List.mem_range.1 hj; omega)
    rw [this, all_eq hS hT, hc]
  simp only [execOp, e1, e2, Sem.run_bind, run_eqGuard_agg (P := cx.P) w .eql t y z _ _ hg0, Result.andThen_ok, run_eql_struct, hr, Sem.run_pure]
end
section
variable {P : Program} {g : Gb} {s : St}
/-- A slice that is made, of noughts. -/
theorem OpOk.make {d : Tmp} {t e : TypeId} {x x' : Operand} {ty : TypeId} {pos : String} {after : Array Edge} {gd : Option (Nat × Bool)} {i ie : TI} {k k' : IntKind} {n : Nat} {el : PV} (b : Nat) (ht : tiOf P t = some i) (hk : i.desc = .slc e) (he : tiOf P e = some ie) (hx : s.ev g x = .pv (.int k n)) (hx' : s.ev g x' = .pv (.int k' n)) (hel : el.cells = ie.zero) (h1 : ∀ z ∈ ie.zero, z.one = true)
    (hz : ie.zero.length = ie.size) (hpos : 0 < ie.size) (hb1 : ie.bytes * n ≤ 281474976710656) (hb2 : n ≤ maxLen) (hb : look s.bx b = none) (hd : d < s.n) :
    OpOk P g ⟨some d, .makeSlice t x x', ty, pos, after, gd⟩ s ((s.box b (.lst e ie.size (List.replicate n el))).put d (.gl b n)) := by
  intro cx a w G hP hg hs K Q hK
  obtain ⟨inf, z0, dd, i1, i2, i3, i4, i5, i6, i7⟩ := tiOf_ok he
  have hx1 := hs.ev hg x
  rw [hx] at hx1
  have hx1 := hx1.int
  have hx2 := hs.ev hg x'
  rw [hx'] at hx2
  have hx2 := hx2.int
  obtain ⟨zl, zr⟩ := pvOfs_ok (G := G) _ _ i7
  have hzc : z0.cells.size = ie.size := by rw [Array.length_toList] at zl; rw [zl, hz]
  have hm := hb2
  simp only [maxLen] at hm
  have hr := run_make (P := P) w t e inf z0 (tiOf_slc ht hk) i1 i6 k k' (n : Int) (n : Int) (by omega) (Int.le_refl _) (by
    rw [i5]
    have : ((ie.bytes * n : Nat) : Int) ≤ 281474976710656 := by omega
    rwa [Int.natCast_mul] at this) (by omega)
  rw [i4, Int.toNat_natCast] at hr
  have hrow : RowsOf G.dat ie.size (List.replicate n el) (madeCells z0.cells (n * ie.size)).toList := by
    refine ⟨by rw [Array.length_toList, size_madeCells, List.length_replicate], fun q hq => by rw [(List.mem_replicate.1 hq).2, hel, hz], fun q hq y hy => by rw [(List.mem_replicate.1 hq).2, hel] at hy; exact h1 y hy, fun p j q y v hq hy hv => ?_⟩
    have hq2 := (List.mem_replicate.1 (List.mem_of_getElem? hq)).2
    subst hq2
    rw [hel] at hy
    have hj := (List.getElem?_eq_some_iff.1 hy).1
    have hv2 : z0.cells[j]? = some v := by
      rw [Array.getElem?_toList] at hv
      unfold madeCells at hv
      rw [Array.getElem?_map, Option.map_eq_some_iff] at hv
      obtain ⟨o, ho, rfl⟩ := hv
      have ho2 : o = p * ie.size + j := by
        have := (Array.getElem?_eq_some_iff.1 ho).2
        simpa using this.symm
      subst ho2
      have hmod : (p * ie.size + j) % z0.cells.size = j := by rw [hzc, Nat.mul_comm, Nat.mul_add_mod, Nat.mod_eq_of_lt (by omega)]
      rw [hmod, getElem!_pos z0.cells j (by omega)]
      exact Array.getElem?_eq_getElem (by omega)
    have := zr j (.pv y) v (by simp [hy]) (by rw [Array.getElem?_toList]; exact hv2)
    cases this with
    | pv _ _ hp => exact hp
  obtain ⟨G', j1, j2⟩ := hs.newLst (b := b) (e := e) (sz := ie.size) hb (xs := List.replicate n el) (cells := madeCells z0.cells (n * ie.size)) hpos hrow (by rw [List.length_replicate]; exact hb2)
  have hrun : (execOp a.eval ⟨some d, .makeSlice t x x', ty, pos, after, gd⟩).run P w = .ok (.value (.slice (some ⟨w.heap.size, 0, none⟩) n n)) (w.alloc (.cells (madeCells z0.cells (n * ie.size)) e)) := by
    simp only [execOp, hx1, hx2, Sem.run_bind, hr, Result.andThen_ok, Sem.run_pure]
  unfold Oper.wp
  rw [hrun]
  have j2' : RA G' (.gl b n) (.slice (some ⟨w.heap.size, 0, none⟩) n n) := by simpa using j2
  exact hK _ _ G' (j1.put hd j2')
theorem load_ea {i : TI} {cs : List PV} (hi : aggD i.desc = true) (hl : cs.length = i.size) : loadAV i (cs.map .pv) = some (.agg (cs.map .pv)) := by
  have := load_agg (i := i) (cs := cs.map AV.pv) (l := cs.map AV.pv) (o := 0) hi (by rw [List.length_map, hl]) (by rw [List.drop_zero, List.take_of_length_le (by rw [List.length_map]; omega)])
  rwa [List.drop_zero] at this
end
section
variable {E : Env} {n : Nat} {tm : List (Nat × AV)} {bx : List (Nat × Box)} {ops : Array Oper} {l : List Oper} {d : Tmp} {ty : TypeId} {pos : String} {after : Array Edge}
theorem O.make {Θ : St → Prop} {t e : TypeId} {x x' : Operand} {i ie : TI} {k k' : IntKind} {m : Nat} {el : PV} (hE : E.Ok) (b : Nat) (ht : E.T t = some i) (hk : i.desc = .slc e) (he : E.T e = some ie) (hx : evO E tm x = some (.pv (.int k m))) (hx' : evO E tm x' = some (.pv (.int k' m))) (hel : el.cells = ie.zero) (h1 : ∀ z ∈ ie.zero, z.one = true)
    (hz : ie.zero.length = ie.size) (hpos : 0 < ie.size) (hb1 : ie.bytes * m ≤ 281474976710656) (hb2 : m ≤ maxLen) (hb : look bx b = none) (hd : Nat.blt d n = true)
    (h : Ops E.P E.g ops l ⟨n, (d, .gl b m) :: tm, (b, .lst e ie.size (List.replicate m el)) :: bx⟩ Θ) : Ops E.P E.g ops (⟨some d, .makeSlice t x x', ty, pos, after, none⟩ :: l) ⟨n, tm, bx⟩ Θ :=
  Ops.op rfl (OpOk.make (s := ⟨n, tm, bx⟩) b (hE.t _ _ ht) hk (hE.t _ _ he) (evO_ok hx) (evO_ok hx') hel h1 hz hpos hb1 hb2 hb (Vm.blt hd)) h
theorem O.loadEA {Θ : St → Prop} {t : TypeId} {y : Operand} {i : TI} {cs : List PV} (hE : E.Ok) (ht : E.T t = some i) (hi : aggD i.desc = true) (hy : evO E tm y = some (.eptr cs)) (hl : cs.length = i.size) (hd : Nat.blt d n = true) (h : Ops E.P E.g ops l ⟨n, (d, .agg (cs.map .pv)) :: tm, bx⟩ Θ) :
    Ops E.P E.g ops (⟨some d, .load t y, ty, pos, after, none⟩ :: l) ⟨n, tm, bx⟩ Θ :=
  Ops.op rfl (OpOk.load (hE.t _ _ ht) (evO_ok hy) rfl (load_ea hi hl) (dlt hd)) h
theorem D.loadEA {Θ : List Rec → St → Prop} {t : TypeId} {y : Operand} {i : TI} {cs : List PV} (hE : E.Ok) (ht : E.T t = some i) (hi : aggD i.desc = true) (hy : evO E tm y = some (.eptr cs)) (hl : cs.length = i.size) (hd : Nat.blt d n = true)
    (h : Dr E.P E.g ops l ⟨n, (d, .agg (cs.map .pv)) :: tm, bx⟩ (fun rs => Θ (⟨rtOf y (.eptr cs), [], [], some d, .agg (cs.map .pv), []⟩ :: rs))) : Dr E.P E.g ops (⟨some d, .load t y, ty, pos, after, none⟩ :: l) ⟨n, tm, bx⟩ Θ :=
  D.of (rt := rtOf y (.eptr cs)) (rb := []) (rt_now hy) none_met hd (fun s hs hb' hd' => OpOk.load (s := s) (hE.t _ _ ht) (evO_ok (n := s.n) (bx := s.bx) (rt_ev hy hs)) rfl (load_ea hi hl) (fun t ht => by obtain rfl := Option.some.inj ht; exact hd')) h
theorem O.eqArr {Θ : St → Prop} {t t' e : TypeId} {y z : Operand} {k : IntKind} {i ie : TI} {len : Nat} {S T : List Int} {c : Bool} (hE : E.Ok) (ht : E.T t = some i) (hk : i.desc = .arr len e) (he : E.T e = some ie) (hek : ie.desc = .int k) (hez : ie.size = 1) (hpk : E.P.plainKey e = true)
    (hg0 : E.P.eqGuardType E.P.depth t = false) (hy : evO E tm y = some (.agg ((S.map (PV.int k)).map AV.pv))) (hz : evO E tm z = some (.agg ((T.map (PV.int k)).map AV.pv))) (hS : S.length = len) (hT : T.length = len) (hc : (S == T) = c) (hd : Nat.blt d n = true)
    (h : Ops E.P E.g ops l ⟨n, (d, .pv (.bool c)) :: tm, bx⟩ Θ) : Ops E.P E.g ops (⟨some d, .binOp .eql t y z t', ty, pos, after, none⟩ :: l) ⟨n, tm, bx⟩ Θ :=
  Ops.op rfl (OpOk.eqArr (s := ⟨n, tm, bx⟩) (hE.t _ _ ht) hk (hE.t _ _ he) hek hez hpk (evO_ok hy) (evO_ok hz) hS hT hg0 hc (dlt hd)) h
theorem D.eqArr {Θ : List Rec → St → Prop} {t t' e : TypeId} {y z : Operand} {k : IntKind} {i ie : TI} {len : Nat} {S T : List Int} {c : Bool} (hE : E.Ok) (ht : E.T t = some i) (hk : i.desc = .arr len e) (he : E.T e = some ie) (hek : ie.desc = .int k) (hez : ie.size = 1) (hpk : E.P.plainKey e = true)
    (hg0 : E.P.eqGuardType E.P.depth t = false) (hy : evO E tm y = some (.agg ((S.map (PV.int k)).map AV.pv))) (hz : evO E tm z = some (.agg ((T.map (PV.int k)).map AV.pv))) (hS : S.length = len) (hT : T.length = len) (hc : (S == T) = c) (hd : Nat.blt d n = true)
    (h : Dr E.P E.g ops l ⟨n, (d, .pv (.bool c)) :: tm, bx⟩ (fun rs => Θ (⟨rtOf y (.agg ((S.map (PV.int k)).map AV.pv)) ++ rtOf z (.agg ((T.map (PV.int k)).map AV.pv)), [], [], some d, .pv (.bool c), []⟩ :: rs))) : Dr E.P E.g ops (⟨some d, .binOp .eql t y z t', ty, pos, after, none⟩ :: l) ⟨n, tm, bx⟩ Θ :=
  D.of (rt := rtOf y (.agg ((S.map (PV.int k)).map AV.pv)) ++ rtOf z (.agg ((T.map (PV.int k)).map AV.pv))) (rb := []) (fun w hw => (List.mem_append.1 hw).elim (rt_now hy w) (rt_now hz w)) none_met hd (fun s hs _ hd' => OpOk.eqArr (s := s) (hE.t _ _ ht) hk (hE.t _ _ he) hek hez hpk (evO_ok (n := s.n) (bx := s.bx) (rt_ev hy (fun p hp => hs p (mem_l hp)))) (evO_ok (n := s.n) (bx := s.bx) (rt_ev hz (fun p hp => hs p (mem_r hp)))) hS hT hg0 hc (fun t ht => by obtain rfl := Option.some.inj ht; exact hd')) h
end
section
variable {E : Env} {n : Nat} {tm : List (Nat × AV)} {bx : List (Nat × Box)} {ops : Array Oper} {l : List Oper} {d : Tmp} {ty : TypeId} {pos : String} {after : Array Edge}
theorem rts_tail {x : Operand} {xs : List Operand} {p : Nat × AV} (hp : p ∈ rtsOf E tm xs) : p ∈ rtsOf E tm (x :: xs) := by
  cases x with
  | tmp t =>
    simp only [rtsOf]
    split
    · exact List.mem_cons_of_mem _ hp
    · exact hp
  | const v => exact hp
  | global k => exact hp
  | func f => exact hp
theorem fillO_mono {place : Nat → Option (Nat × Nat)} {s : St} : ∀ (ps : List (Nat × Operand)) (cells r : List AV), fillO E place tm cells ps = some r → (∀ p ∈ rtsOf E tm (ps.map (·.2)), look s.tm p.1 = some p.2) → fillO E place s.tm cells ps = some r
  | [], cells, r, h, _ => h
  | (i, x) :: rest, cells, r, h, hs => by
    simp only [fillO] at h ⊢
    split at h
    · rename_i off size ys h1 h2
      split at h
      · rename_i c h3 h4
        rw [Option.bind_eq_some_iff] at h2
        obtain ⟨y, hy, h2⟩ := h2
        have e1 : evO E s.tm x = some y := by
          cases x with
          | tmp t => exact hs (t, y) (by simp only [List.map_cons, rtsOf]; rw [show look tm t = some y from hy]; simp)
          | const v => exact hy
          | global k => exact hy
          | func f => exact hy
        have e2 := fillO_mono (s := s) rest c r h (fun p hp => hs p (by rw [List.map_cons]; exact rts_tail hp))
        rw [h1, e1]
        simp only [Option.bind_some, h2, h3, h4]
        exact e2
      · cases h
    · cases h
theorem O.appM {α : Type} (f : α → PV) {Θ : St → Prop} {t e : TypeId} {y x : Operand} {i ie : TI} {b m sz s2 : Nat} {q r : List α} {z : AV} (hE : E.Ok) (ht : E.T t = some i) (hk : i.desc = .slc e) (he : E.T e = some ie) (hy : evO E tm y = some (.gl b m)) (hb : look bx b = some (.lst e sz (q.map f))) (hm : m = q.length) (hx : evO E tm x = some z)
    (hl : lstO bx z = some (s2, r.map f)) (hn : newest bx z) (hsz : s2 = sz) (hsz2 : sz = ie.size) (hz : Nat.beq ie.zero.length ie.size = true) (hpos : Nat.blt 0 ie.size = true) (hb1 : (q.length + r.length) * ie.bytes ≤ 140737488355328) (hb2 : q.length + r.length ≤ maxLen) (hd : Nat.blt d n = true)
    (h : Ops E.P E.g ops l ⟨n, (d, .gl b (q ++ r).length) :: tm, (b, .lst e sz ((q ++ r).map f)) :: bx⟩ Θ) : Ops E.P E.g ops (⟨some d, .call { callee := .builtin .append, args := #[y, x], argTypes := #[t, t] }, ty, pos, after, none⟩ :: l) ⟨n, tm, bx⟩ Θ := by
  refine O.append hE ht hk he hy hb (by simp [hm]) hx hl hn hsz hsz2 hz hpos (by simpa using hb1) (by simpa using hb2) List.map_append.symm hd ?_
  rw [List.length_map]
  exact h
theorem D.build {Θ : List Rec → St → Prop} {t : TypeId} {parts : Array (Nat × Operand)} {i : TI} {ls : List (Nat × Nat)} {zs cs : List AV} (hE : E.Ok) (ht : E.T t = some i) (hl : E.L t = some ls) (hz : pvsO i.zero = some zs) (hf : fillO E (fun j => ls[j]?) tm zs parts.toList = some cs) (hd : Nat.blt d n = true)
    (h : Dr E.P E.g ops l ⟨n, (d, .agg cs) :: tm, bx⟩ (fun rs => Θ (⟨rtsOf E tm (parts.toList.map (·.2)), [], [], some d, .agg cs, []⟩ :: rs))) : Dr E.P E.g ops (⟨some d, .build t parts, ty, pos, after, none⟩ :: l) ⟨n, tm, bx⟩ Θ :=
  D.of (rt := rtsOf E tm (parts.toList.map (·.2))) (rb := []) (rts_now _) none_met hd (fun s hs _ hd' => OpOk.build (s := s) (hE.t _ _ ht) (hE.l _ _ hl) (by rw [← pvsO_ok _ _ hz]; exact fillO_ok (n := s.n) (tm := s.tm) (bx := s.bx) _ _ _ (fillO_mono _ _ _ hf hs)) (fun t ht => by obtain rfl := Option.some.inj ht; exact hd')) h
end
theorem lstOf_glV {n : Nat} {tm : List (Nat × AV)} {bx : List (Nat × Box)} {b m e sz : Nat} {xs : List PV} (h : look bx b = some (.lst e sz xs)) (hm : m = xs.length) : St.lstOf ⟨n, tm, bx⟩ (.gl b m) = some (sz, xs) := by
  simp only [St.lstOf, h, hm, List.take_length]
theorem ints_map (k : IntKind) (S : List Int) : (S.map (PV.int k)).map AV.pv = ints k S := by simp [ints]
theorem setO_fits {α : Type} {cs ys : List α} {o : Nat} (h : o + ys.length ≤ cs.length) : setO cs o ys = some (setAt cs o ys) := by
  have take_ok : ∀ (o : Nat) (l : List α), o ≤ l.length → takeO o l = some (l.take o) := by
    intro o
    induction o with
    | zero => intro l _; cases l <;> rfl
    | succ o ih =>
      intro l hl
      cases l with
      | nil => simp at hl
      | cons a l =>
        simp only [takeO, ih l (by simpa using hl)]
        rfl
  have drop_ok : ∀ (o : Nat) (l : List α), o ≤ l.length → dropO o l = some (l.drop o) := by
    intro o
    induction o with
    | zero => intro l _; cases l <;> rfl
    | succ o ih =>
      intro l hl
      cases l with
      | nil => simp at hl
      | cons a l =>
        simp only [dropO, ih l (by simpa using hl)]
        rfl
  have app_ok : ∀ a b : List α, appO a b = some (a ++ b) := by
    intro a b
    induction a with
    | nil => rfl
    | cons x a ih => simp only [appO, ih]; rfl
  unfold setO
  simp only [take_ok o cs (by omega), drop_ok _ cs h, app_ok]
  unfold setAt
  simp
theorem pubs_ints {bx : List (Nat × Box)} {k : IntKind} : ∀ S : List Int, pubsO bx (ints k S) = some (S.map (PV.int k))
  | [] => rfl
  | x :: S => by
    show (match pub1O bx (.pv (.int k x)), pubsO bx (ints k S) with | some p, some ps => some (p :: ps) | _, _ => none) = _
    rw [pubs_ints S]; rfl
end Go.Proofs.Ytalcpfpjkfpmbaa.Vm
