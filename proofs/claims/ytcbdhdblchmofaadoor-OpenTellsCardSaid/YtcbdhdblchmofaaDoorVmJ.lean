/- The value machine, tenth part: slices of literals, texts to bytes and back. Conditions: none. -/
import Derived.Test.YtcbdhdblchmofaaDoorVmI
import Derived.Lib.ConvBytes
import Derived.Laws.BytesString
import Derived.Laws.BytesArg
namespace Go.Proofs.YtcbdhdblchmofaaDoor.Vm
open Go Go.RowKit
set_option linter.unusedVariables false
set_option linter.unusedSimpArgs false

theorem RowsOf.nil (dat : Nat → Nat → Option Value) (sz : Nat) : RowsOf dat sz [] [] := ⟨by simp, fun e he => by simp at he, fun e he => by simp at he, fun i j e x v he => by simp at he⟩
theorem RowsOf.one {dat : Nat → Nat → Option Value} {sz : Nat} {p : PV} {us : List Value} (hl : us.length = sz) (hz : p.cells.length = sz) (h1 : ∀ q ∈ p.cells, q.one = true) (h : ∀ (i : Nat) q u, p.cells[i]? = some q → us[i]? = some u → RP dat q u) : RowsOf dat sz [p] us := by
  refine ⟨by simp [hl], fun e he => by simp at he; subst he; exact hz, fun e he => by simp at he; subst he; exact h1, fun i j e x v he hx hv => ?_⟩
  cases i with
  | zero => simp at he; subst he; exact h j x v hx (by simpa using hv)
  | succ i => simp at he

/-- The elements of a literal, in order: what they are once they are published. -/
def elems (s : St) (g : Nat → Option (List PV)) (sz : Nat) : Nat → List (Nat × Operand) → Option (List PV)
  | _, [] => some []
  | k, (i, x) :: rest => match s.pub? (s.ev g x), elems s g sz (k + 1) rest with
    | some p, some ps => bif Nat.beq i k && Nat.beq p.cells.length sz && p.cells.all PV.one then some (p :: ps) else none
    | _, _ => none
section
variable {P : Program} {g : Nat → Option (List PV)} {s s1 s' : St} {cx : Cx} {a : Act} {w : World} {G : Gh}
theorem run_elems (h : SR cx s a w G) (hg : cx.g = g) {sz : Nat} : ∀ (parts : List (Nat × Operand)) (k : Nat) (ps : List PV) (cells : Array Value) (done : List Value), elems s g sz k parts = some ps → done.length = k * sz → cells.size = (k + parts.length) * sz → cells.toList.take (k * sz) = done →
    ∃ us rs, RowsOf G.dat sz ps us ∧ Instr.fill (fun i => some (i * sz, sz)) cells (parts.map fun (i, x) => (i, a.eval x)) = some rs ∧ rs.toList = done ++ us
  | [], k, ps, cells, done, he, hd, hc, ht => by
    obtain rfl := Option.some.inj he
    refine ⟨[], cells, RowsOf.nil _ _, rfl, ?_⟩
    rw [List.append_nil, ← ht, List.take_of_length_le (by simp [hc])]
  | (i, x) :: rest, k, ps, cells, done, he, hd, hc, ht => by
    simp only [elems] at he
    split at he
    · rename_i p ps' h1 h2
      cases hb : Nat.beq i k && Nat.beq p.cells.length sz && p.cells.all PV.one with
      | false => rw [hb] at he; cases he
      | true =>
        rw [hb] at he
        obtain rfl := Option.some.inj he
        rw [Bool.and_eq_true, Bool.and_eq_true] at hb
        have hik := Nat.eq_of_beq_eq_true hb.1.1
        have hpz := Nat.eq_of_beq_eq_true hb.1.2
        have hp1 : ∀ q ∈ p.cells, q.one = true := fun q hq => List.all_eq_true.1 hb.2 q hq
        subst hik
        obtain ⟨e1, e2, e3⟩ := h.pub (h.ev hg x) h1 hpz hp1
        simp only [List.length_cons] at hc
        have hmul : (i + (rest.length + 1)) * sz = i * sz + sz + rest.length * sz := by rw [Nat.add_mul, Nat.add_mul]; omega
        have hfold := fold_arr (i * sz) (a.eval x).cells cells (by omega)
        have hlen : ((a.eval x).cells.toList).length = sz := by simpa using e1
        obtain ⟨us, rs, k1, k2, k3⟩ := run_elems h hg rest (i + 1) ps' ((a.eval x).cells.zipIdx.foldl (fun (acc : Array Value) (c : Value × Nat) => acc.setIfInBounds (i * sz + c.2) c.1) cells) (done ++ (a.eval x).cells.toList) h2
          (by rw [List.length_append, hd, hlen, Nat.add_mul]; omega)
          (by
            rw [← Array.length_toList, hfold]
            have : (setAt cells.toList (i * sz) (a.eval x).cells.toList).length = cells.size := by simp [setAt]; omega
            rw [this, hc, hmul, Nat.add_mul, Nat.add_mul]; omega)
          (by
            rw [hfold, ← ht]
            unfold setAt
            rw [List.take_append_of_le_length (by simp; rw [Nat.add_mul]; omega), List.take_of_length_le (by simp; rw [Nat.add_mul]; omega)])
        refine ⟨(a.eval x).cells.toList ++ us, rs, (RowsOf.one hlen hpz hp1 (fun j q u hq hu => e2 j q u hq (by rwa [Array.getElem?_toList] at hu))).append k1, ?_, by rw [k3, List.append_assoc]⟩
        simp only [List.map_cons, Instr.fill]
        rw [if_neg (by simp [e1]; omega)]
        exact k2
    · cases he
theorem OpOk.buildSlice {d : Tmp} {t e : TypeId} {len : Nat} {parts : Array (Nat × Operand)} {ty : TypeId} {pos : String} {after : Array Edge} {gd : Option (Nat × Bool)} {i ie : TI} {xs : List PV} (b : Nat) (ht : tiOf P t = some i) (hk : i.desc = .slc e) (he : tiOf P e = some ie)
    (hz : Nat.beq ie.zero.length ie.size = true) (hpos : Nat.blt 0 ie.size = true) (hel : elems s g ie.size 0 parts.toList = some xs) (hlen : Nat.beq len parts.toList.length = true) (hlen2 : Nat.beq len xs.length = true) (hbig : Nat.ble (len * ie.size) 16777216 = true) (hb : look s.bx b = none) (hd : d < s.n) :
    OpOk P g ⟨some d, .buildSlice t len parts, ty, pos, after, gd⟩ s ((s.box b (.lst e ie.size xs)).put d (.gl b xs.length)) := by
  intro cx a w G hP hg hs K Q hK
  have hz := Nat.eq_of_beq_eq_true hz
  have hpos := Nat.le_of_ble_eq_true hpos
  have hlen := Nat.eq_of_beq_eq_true hlen
  have hlen2 := Nat.eq_of_beq_eq_true hlen2
  have hbig := Nat.le_of_ble_eq_true hbig
  obtain ⟨inf, z, dd, i1, i2, i3, i4, i5, i6, i7⟩ := tiOf_ok he
  have hzc : z.cells.size = ie.size := by
    have := (pvOfs_ok (G := G) _ _ i7).1
    rw [Array.length_toList] at this
    rw [this, hz]
  obtain ⟨us, rs, k1, k2, k3⟩ := run_elems hs hg parts.toList 0 xs ((Array.range (len * ie.size)).map (fun j => z.cells[j % z.cells.size]!)) [] hel (by simp) (by simp [hlen]) (by simp)
  simp only [List.nil_append] at k3
  have hxl : xs.length ≤ maxLen := by
    have h1 : len ≤ len * ie.size := Nat.le_mul_of_pos_right _ hpos
    simp only [maxLen]; omega
  obtain ⟨G', j1, j2⟩ := hs.newLst (b := b) (e := e) (sz := ie.size) hb (xs := xs) (cells := rs) hpos (by rw [k3]; exact k1) hxl
  have hu := run_underlying (tiOf_slc ht hk)
  have hrun : (execOp a.eval ⟨some d, .buildSlice t len parts, ty, pos, after, gd⟩).run P w = .ok (.value (.slice (some ⟨w.heap.size, 0, none⟩) len len)) (w.alloc (.cells rs e)) := by
    simp only [execOp, Instr.buildSlice, Sem.run_bind, hu, tiOf_size he, Result.andThen_ok]
    rw [if_neg (by omega)]
    have hpl : (parts.map fun (i, x) => (i, a.eval x)).toList = parts.toList.map (fun (i, x) => (i, a.eval x)) := by simp
    by_cases c : len * ie.size = 0
    · rw [if_pos c]
      have hsame : (Array.range (len * ie.size)).map (fun j => (#[] : Array Value)[j % (#[] : Array Value).size]!) = (Array.range (len * ie.size)).map (fun j => z.cells[j % z.cells.size]!) := by
        rw [c]; simp
      simp only [Sem.run_bind, Sem.run_pure, Result.andThen_ok, hsame, hpl, k2]
      simp [newRow, newObj, Sem.run, World.alloc, -World.alloc_eq, Sem.run_bind, Result.andThen]
    · rw [if_neg c]
      have hzv : (zeroValue e).run P w = .ok z w := by simp [zeroValue, typeInfo, i1, i6]
      simp only [Sem.run_bind, Sem.run_pure, Result.andThen_ok, hzv, hpl, k2]
      simp [newRow, newObj, Sem.run, World.alloc, -World.alloc_eq, Sem.run_bind, Result.andThen]
  unfold Oper.wp
  rw [hrun, hlen2]
  exact hK _ _ G' (j1.put hd j2)

/-- New cells that are known for good from now on, in a new block. -/
theorem SR.newDat (h : SR cx s a w G) {w' : World} (D : Nat → Option Value) (hk : w.heap.size < w'.heap.size) (hold : ∀ k, k < w.heap.size → w'.heap[k]? = w.heap[k]?) (hbel : Below cx.base cx.w0 w') (hD : ∀ o v, D o = some v → w'.cell? ⟨w.heap.size, o, none⟩ = some v) :
    ∃ G', G.Le G' ∧ (∀ o, G'.dat w.heap.size o = D o) ∧ SR cx s a w' G' := by
  obtain ⟨G', hG⟩ : ∃ G' : Gh, G' = ⟨fun b o => if b = w.heap.size then D o else G.dat b o, G.blk, G.ls⟩ := ⟨_, rfl⟩
  have hnone : ∀ o, G.dat w.heap.size o = none := fun o => by
    cases hd : G.dat w.heap.size o with
    | none => rfl
    | some v => exact absurd (h.dat_lt hd) (Nat.lt_irrefl _)
  have hle : G.Le G' := by
    subst hG
    refine ⟨fun b o v hv => ?_, fun _ _ h => h, fun b sz xs hh hb => ⟨[], hh, by simpa using hb, fun _ => rfl⟩⟩
    have : b ≠ w.heap.size := fun e => by subst e; rw [hnone] at hv; cases hv
    simp only [this, if_false]; exact hv
  have hkeep : ∀ k, k < w.heap.size → ∀ o, G.dat k o = none → G'.dat k o = none := fun k hk o ho => by
    subst hG
    have : k ≠ w.heap.size := by omega
    simp only [this, if_false]; exact ho
  refine ⟨G', hle, fun o => by subst hG; simp, ⟨fun t => (h.tm t).mono hle, h.sz, h.df, fun b o v hv => ?_, fun b B hB => (h.bx b B hB).keep hle (by subst hG; rfl) (fun k hk' => ?_) (fun x k hx hk' => ?_), by subst hG; exact h.gb, by subst hG; exact h.gl, fun b b' k hk' hk2 => h.inj b b' k (by subst hG; exact hk') (by subst hG; exact hk2), hbel, fun b o hb => ?_, fun gg cs hg => (h.glo gg cs hg).mono hle, h.bas⟩⟩
  · by_cases c : b = w.heap.size
    · subst c
      exact hD o v (by subst hG; simpa using hv)
    · have hv' : G.dat b o = some v := by subst hG; simpa [c] using hv
      rw [← h.dat b o v hv']
      exact World.cell?_of_block (w := w) (hold b (h.dat_lt hv'))
  · have := (h.own_lt (h.own_var hk')).2
    exact ⟨hold k this, hkeep k this⟩
  · have := (h.own_lt ((h.own_lst hx).trans hk')).2
    exact ⟨hold k this, hkeep k this⟩
  · have : b ≠ w.heap.size := by have := h.basele; omega
    subst hG
    simp only [this, if_false]
    exact h.low b o hb

/-- The bytes of a text, as elements. -/
def byts (b : ByteArray) : List PV := b.data.toList.map fun c => .int .u8 (c.toNat : Int)
theorem byts_len (b : ByteArray) : (byts b).length = b.size := by simp [byts]
theorem OpOk.bytesOf {d : Tmp} {src t e : TypeId} {y : Operand} {ty : TypeId} {pos : String} {after : Array Edge} {gd : Option (Nat × Bool)} {i ie is : TI} {b : ByteArray} (hs0 : tiOf P src = some is) (ht : tiOf P t = some i) (hk : i.desc = .slc e) (he : tiOf P e = some ie) (hek : ie.desc = .int .u8)
    (hy : s.ev g y = .pv (.str b)) (hm : b.size ≤ maxLen) (hd : d < s.n) : OpOk P g ⟨some d, .convert src t y, ty, pos, after, gd⟩ s (s.put d (.pv (.lst 1 (byts b)))) := by
  intro cx a w G hP hg hs K Q hK
  have h1 := hs.ev hg y
  rw [hy] at h1
  obtain ⟨ds, u1, _⟩ := tiOf_und hs0
  have hconv := Lib.run_convert_string_bytes (P := P) w src t e b u1 (tiOf_slc ht hk) (tiOf_int he hek)
  have hrun : (execOp a.eval ⟨some d, .convert src t y, ty, pos, after, gd⟩).run P w = .ok (.value (.slice (some ⟨w.heap.size, 0, none⟩) b.size (grownCap w b.size 0 e))) (Lib.bytesWorld w e b) := by
    simp only [execOp, h1.str, Sem.run_bind, hconv, Result.andThen_ok, Sem.run_pure]
  have hcell : ∀ (o : Nat) v, ((byts b)[o]?).bind PV.val? = some v → (Lib.bytesWorld w e b).cell? ⟨w.heap.size, o, none⟩ = some v := by
    intro o v hv
    rw [Option.bind_eq_some_iff] at hv
    obtain ⟨p, hp, hv⟩ := hv
    have hlt : o < b.size := by rw [← byts_len]; exact (List.getElem?_eq_some_iff.1 hp).1
    rw [Lib.bytesWorld_cell w e b o hlt]
    have hlt' : o < b.data.toList.length := by simpa using hlt
    simp only [byts, List.getElem?_map, List.getElem?_eq_getElem hlt', Option.map_some] at hp
    obtain rfl := Option.some.inj hp
    simp only [PV.val?] at hv
    rw [← hv]
    have hlt2 : o < b.data.size := by simpa using hlt'
    simp only [List.getD, List.getElem?_eq_getElem hlt', Option.getD_some]
  obtain ⟨G', k1, k2, k3⟩ := hs.newDat (w' := Lib.bytesWorld w e b) (fun o => ((byts b)[o]?).bind PV.val?) (by rw [Lib.bytesWorld_size]; omega) (fun k hk => Lib.bytesWorld_at_old w e b k hk)
    (hs.bel.trans ⟨rfl, rfl, rfl, by rw [Lib.bytesWorld_size]; omega, fun k hk => Lib.bytesWorld_at_old w e b k (by have := hs.basele; omega)⟩) hcell
  unfold Oper.wp
  rw [hrun]
  have hcap := grownCap_ge w b.size 0 e
  have hcapm := grownCap_le_maxLen w b.size 0 e hm
  refine hK _ _ G' (k3.put hd (.pv _ _ ?_))
  have helem : ∀ (i : Nat) p, (byts b)[i]? = some p → ∃ n, p = .int .u8 n := fun i p hp => by
    simp only [byts, List.getElem?_map, Option.map_eq_some_iff] at hp
    obtain ⟨c, _, rfl⟩ := hp
    exact ⟨_, rfl⟩
  refine .lst 1 (byts b) _ _ _ (byts_len b).symm hcap hcapm (fun p hp => ?_) (fun p hp q hq => ?_) (fun h => by cases h) (fun ad h => by obtain rfl := Option.some.inj h; rfl) (fun ad j q p x ha hp hx => ?_) (fun ad j q p x v ha hp hx hv => ?_)
  · obtain ⟨j, hj⟩ := List.mem_iff_getElem?.1 hp
    obtain ⟨n, rfl⟩ := helem j p hj
    rfl
  · obtain ⟨j, hj⟩ := List.mem_iff_getElem?.1 hp
    obtain ⟨n, rfl⟩ := helem j p hj
    simp [PV.cells] at hq
    subst hq
    rfl
  · obtain rfl := Option.some.inj ha
    obtain ⟨n, rfl⟩ := helem j p hp
    cases q with
    | zero => exact ⟨.int .u8 n, by simp only [Nat.zero_add, Nat.mul_one, Nat.add_zero]; rw [k2, hp]; rfl⟩
    | succ q => simp [PV.cells] at hx
  · obtain rfl := Option.some.inj ha
    obtain ⟨n, rfl⟩ := helem j p hp
    cases q with
    | zero =>
      simp [PV.cells] at hx
      subst hx
      simp only [Nat.zero_add, Nat.mul_one, Nat.add_zero] at hv
      rw [k2, hp] at hv
      simp only [Option.bind_some, PV.val?] at hv
      obtain rfl := Option.some.inj hv
      exact .int _ _
    | succ q => simp [PV.cells] at hx

/-- Bytes as numbers. -/
def nums : List PV → Option (List Int)
  | [] => some []
  | .int .u8 n :: xs => (nums xs).map (n :: ·)
  | _ => none
theorem OpOk.strOf {dst : Option Tmp} {src t e : TypeId} {y : Operand} {ty : TypeId} {pos : String} {after : Array Edge} {gd : Option (Nat × Bool)} {i ie it : TI} {z : AV} {sz : Nat} {xs : List PV} {ns : List Int} {b : ByteArray} (ht : tiOf P src = some i) (hk : i.desc = .slc e) (he : tiOf P e = some ie) (hek : ie.desc = .int .u8) (htt : tiOf P t = some it) (htk : it.desc = .strg)
    (hy : s.ev g y = z) (hl : s.lstOf z = some (sz, xs)) (hn : nums xs = some ns) (hb : strOfNums ns = b) (hd : ∀ t, dst = some t → t < s.n) : OpOk P g ⟨dst, .convert src t y, ty, pos, after, gd⟩ s (s.putO dst (.pv (.str b))) := by
  refine OpOk.val (o := ⟨dst, .convert src t y, ty, pos, after, gd⟩) hd (fun cx a w G hP hg hs => ⟨.string b, ?_, .pv _ _ (.str b)⟩)
  have h3 := hs.lst (hs.ev hg y) (by rw [hy]; exact hl)
  generalize hv : a.eval y = v at h3
  have hnum : ∀ (xs : List PV) (ns : List Int), nums xs = some ns → xs = ns.map (PV.int .u8) := by
    intro xs
    induction xs with
    | nil => intro ns h; obtain rfl := Option.some.inj h; rfl
    | cons x xs ih =>
      intro ns h
      unfold nums at h
      split at h
      · rename_i heq; cases heq
      · rename_i n xs' heq
        injection heq with e1 e2
        subst e1
        subst e2
        rw [Option.map_eq_some_iff] at h
        obtain ⟨ns', h1, rfl⟩ := h
        rw [ih ns' h1]; rfl
      · cases h
  have hxs := hnum xs ns hn
  subst hxs
  subst hb
  have hconv : ∀ A n c, (convert src t (.slice A n c)).run P w = (Conv.bytesToString (.slice A n c)).run P w := fun A n c => run_convert_bytes_string w src t e A n c (tiOf_slc ht hk) (tiOf_int he hek) (tiOf_strg htt htk)
  cases h3 with
  | lst _ _ A n c hn' hc hm hz h1 hnone hspot hdat hrp =>
    have hgoal : (Conv.bytesToString (.slice A n c)).run P w = .ok (.string (strOfNums ns)) w := by
      cases A with
      | none =>
        have : ns = [] := by have := hnone rfl; simpa using this
        subst this
        rfl
      | some ad =>
        have hload : (loadCells ad n).run P w = .ok (ns.map (Value.int .u8)).toArray w := by
          have := run_loadCells_list (P := P) w ad (ns.map (Value.int .u8)) (fun j u hu => by
            rw [List.getElem?_map, Option.map_eq_some_iff] at hu
            obtain ⟨m, hm', rfl⟩ := hu
            have hp : (ns.map (PV.int .u8))[j]? = some (.int .u8 m) := by rw [List.getElem?_map, hm']; rfl
            have hsz1 : sz = 1 := (hz _ (List.mem_of_getElem? hp)).symm
            subst hsz1
            obtain ⟨u, hu⟩ := hdat ad j 0 _ _ rfl hp rfl
            have hr := hrp ad j 0 _ _ u rfl hp rfl hu
            cases hr
            rw [add_spot ad (hspot ad rfl)]
            have := hs.dat _ _ _ hu
            simpa using this)
          rw [List.length_map] at this
          rw [hn', List.length_map]
          exact this
        rw [run_bytesToString w ad n c ns hload, foldl_push_bytes]
        simp [strOfNums, ByteArray.empty, ByteArray.emptyWithCapacity]
        rfl
    simp only [execOp, hv, Sem.run_bind, hconv, hgoal, Result.andThen_ok, Sem.run_pure]
end
end Go.Proofs.YtcbdhdblchmofaaDoor.Vm
