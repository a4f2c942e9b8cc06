/- The value machine, twentieth part: slices of literals that will not grow. Conditions: none. -/
import Derived.Test.YtcbdhdblchmofaaDoorVmT
namespace Go.Proofs.YtcbdhdblchmofaaDoor.Vm
open Go Go.RowKit
set_option linter.unusedVariables false
set_option linter.unusedSimpArgs false
section
variable {P : Program} {g : Nat → Option (List PV)} {s : St}
theorem OpOk.buildSliceV {d : Tmp} {t e : TypeId} {len : Nat} {parts : Array (Nat × Operand)} {ty : TypeId} {pos : String} {after : Array Edge} {gd : Option (Nat × Bool)} {i ie : TI} {xs : List PV} (ht : tiOf P t = some i) (hk : i.desc = .slc e) (he : tiOf P e = some ie)
    (hz : Nat.beq ie.zero.length ie.size = true) (hpos : Nat.blt 0 ie.size = true) (hel : elems s g ie.size 0 parts.toList = some xs) (hlen : Nat.beq len parts.toList.length = true) (hlen2 : Nat.beq len xs.length = true) (hbig : Nat.ble (len * ie.size) 16777216 = true) (hd : d < s.n) :
    OpOk P g ⟨some d, .buildSlice t len parts, ty, pos, after, gd⟩ s (s.put d (.pv (.lst ie.size xs))) := by
  intro cx a w G hP hg hs K Q hK
  have hz := Nat.eq_of_beq_eq_true hz
  have hpos := Nat.le_of_ble_eq_true hpos
  have hlen := Nat.eq_of_beq_eq_true hlen
  have hlen2 := Nat.eq_of_beq_eq_true hlen2
  have hbig := Nat.le_of_ble_eq_true hbig
  obtain ⟨inf, z, dd, i1, i2, i3, i4, i5, i6, i7⟩ := tiOf_ok he
  have hzc : z.cells.size = ie.size := by
    have := (pvOfs_ok (G := G) _ _ i7).1
    rw [Array.length_toList] at this
    rw [this, hz]
  obtain ⟨us, rs, k1, k2, k3⟩ := run_elems hs hg parts.toList 0 xs ((Array.range (len * ie.size)).map (fun j => z.cells[j % z.cells.size]!)) [] hel (by simp) (by simp [hlen]) (by simp)
  simp only [List.nil_append] at k3
  have hxl : xs.length ≤ maxLen := by
    have h1 : len ≤ len * ie.size := Nat.le_mul_of_pos_right _ hpos
    simp only [maxLen]; omega
  have hu := run_underlying (tiOf_slc ht hk)
  have hrun : (execOp a.eval ⟨some d, .buildSlice t len parts, ty, pos, after, gd⟩).run P w = .ok (.value (.slice (some ⟨w.heap.size, 0, none⟩) len len)) (w.alloc (.cells rs e)) := by
    simp only [execOp, Instr.buildSlice, Sem.run_bind, hu, tiOf_size he, Result.andThen_ok]
    rw [if_neg (by omega)]
    have hpl : (parts.map fun (i, x) => (i, a.eval x)).toList = parts.toList.map (fun (i, x) => (i, a.eval x)) := by simp
    by_cases c : len * ie.size = 0
    · rw [if_pos c]
      have hsame : (Array.range (len * ie.size)).map (fun j => (#[] : Array Value)[j % (#[] : Array Value).size]!) = (Array.range (len * ie.size)).map (fun j => z.cells[j % z.cells.size]!) := by
        rw [c]; simp
      simp only [Sem.run_bind, Sem.run_pure, Result.andThen_ok, hsame, hpl, k2]
      simp [newRow, newObj, Sem.run, World.alloc, -World.alloc_eq, Sem.run_bind, Result.andThen]
    · rw [if_neg c]
      have hzv : (zeroValue e).run P w = .ok z w := by simp [zeroValue, typeInfo, i1, i6]
      simp only [Sem.run_bind, Sem.run_pure, Result.andThen_ok, hzv, hpl, k2]
      simp [newRow, newObj, Sem.run, World.alloc, -World.alloc_eq, Sem.run_bind, Result.andThen]
  have hold : ∀ k, k < w.heap.size → (w.alloc (.cells rs e)).heap[k]? = w.heap[k]? := fun k hk => by
    simp [World.alloc, -World.alloc_eq, Array.getElem?_push, show k ≠ w.heap.size by omega]
  have hsz : (w.alloc (.cells rs e)).heap.size = w.heap.size + 1 := by simp [World.alloc, -World.alloc_eq]
  have hcell : ∀ (o : Nat) v, rs[o]? = some v → (w.alloc (.cells rs e)).cell? ⟨w.heap.size, o, none⟩ = some v := fun o v hv => by
    simp [World.cell?, World.alloc, -World.alloc_eq, hv]
  obtain ⟨G', j1, j2, j3⟩ := hs.newDat (w' := w.alloc (.cells rs e)) (fun o => rs[o]?) (by rw [hsz]; omega) hold
    (hs.bel.trans ⟨rfl, rfl, rfl, by rw [hsz]; omega, fun k hk => hold k (by have := hs.basele; omega)⟩) hcell
  unfold Oper.wp
  rw [hrun]
  refine hK _ _ G' (j3.put hd (.pv _ _ ?_))
  refine .lst ie.size xs _ _ _ hlen2 (Nat.le_refl _) (by omega) k1.hz k1.h1 (fun h => by cases h) (fun ad h => by obtain rfl := Option.some.inj h; rfl) (fun ad q j p x ha hp hx => ?_) (fun ad q j p x v ha hp hx hv => ?_)
  · obtain rfl := Option.some.inj ha
    have hq := (List.getElem?_eq_some_iff.1 hp).1
    have hj := (List.getElem?_eq_some_iff.1 hx).1
    have hpz := k1.hz p (List.mem_of_getElem? hp)
    have hlt : q * ie.size + j < us.length := by rw [k1.len]; exact idx_lt hq (by omega)
    simp only [Nat.zero_add]
    rw [j2, ← Array.getElem?_toList, k3]
    exact ⟨_, List.getElem?_eq_getElem hlt⟩
  · obtain rfl := Option.some.inj ha
    simp only [Nat.zero_add] at hv
    rw [j2, ← Array.getElem?_toList, k3] at hv
    exact (k1.rel q j p x v hp hx hv).mono j1.1
end
section
variable {E : Env} {n : Nat} {tm : List (Nat × AV)} {bx : List (Nat × Box)} {ops : Array Oper} {l : List Oper} {d : Tmp} {ty : TypeId} {pos : String} {after : Array Edge}
theorem pub1O_mono {x : AV} {p : PV} (h : pub1O [] x = some p) : pub1O bx x = some p := by
  cases x <;> simp only [pub1O, look] at h ⊢ <;> first | exact h | cases h
theorem pubsO_mono : ∀ {xs : List AV} {ps : List PV}, pubsO [] xs = some ps → pubsO bx xs = some ps
  | [], ps, h => h
  | x :: xs, ps, h => by
    simp only [pubsO] at h ⊢
    split at h
    · rename_i p ps' h1 h2
      rw [pub1O_mono h1, pubsO_mono h2]; exact h
    · cases h
theorem pubO_mono {x : AV} {p : PV} (h : pubO [] x = some p) : pubO bx x = some p := by
  cases x <;> simp only [pubO, look] at h ⊢ <;> try first | exact h | cases h
  split at h
  · rename_i ps h1
    rw [pubsO_mono h1]; exact h
  · cases h
theorem elemsO_mono {sz : Nat} {s : St} : ∀ (ps : List (Nat × Operand)) (k : Nat) (r : List PV), elemsO E [] tm sz k ps = some r → (∀ p ∈ rtsOf E tm (ps.map (·.2)), look s.tm p.1 = some p.2) → elemsO E s.bx s.tm sz k ps = some r
  | [], k, r, h, _ => h
  | (i, x) :: rest, k, r, h, hs => by
    simp only [elemsO] at h ⊢
    split at h
    · rename_i p ps' h1 h2
      rw [Option.bind_eq_some_iff] at h1
      obtain ⟨y, hy, h1⟩ := h1
      have e1 : evO E s.tm x = some y := by
        cases x with
        | tmp t => exact hs (t, y) (by simp only [List.map_cons, rtsOf]; rw [show look tm t = some y from hy]; simp)
        | const v => exact hy
        | global k => exact hy
        | func f => exact hy
      have e2 := elemsO_mono rest (k + 1) ps' h2 (fun p hp => hs p (by
        simp only [List.map_cons]
        cases x with
        | tmp t =>
          simp only [rtsOf]
          split
          · exact List.mem_cons_of_mem _ hp
          · exact hp
        | const v => exact hp
        | global k => exact hp
        | func f => exact hp))
      rw [e1, e2]
      simp only [Option.bind_some, pubO_mono h1]
      exact h
    · cases h
theorem O.litV {Θ : St → Prop} {t e : TypeId} {len : Nat} {parts : Array (Nat × Operand)} {i ie : TI} {xs : List PV} (hE : E.Ok) (ht : E.T t = some i) (hk : i.desc = .slc e) (he : E.T e = some ie) (hz : Nat.beq ie.zero.length ie.size = true) (hpos : Nat.blt 0 ie.size = true) (hel : elemsO E bx tm ie.size 0 parts.toList = some xs) (hlen : Nat.beq len parts.toList.length = true) (hlen2 : Nat.beq len xs.length = true)
    (hbig : Nat.ble (len * ie.size) 16777216 = true) (hd : Nat.blt d n = true) (h : Ops E.P E.g ops l ⟨n, (d, .pv (.lst ie.size xs)) :: tm, bx⟩ Θ) : Ops E.P E.g ops (⟨some d, .buildSlice t len parts, ty, pos, after, none⟩ :: l) ⟨n, tm, bx⟩ Θ :=
  Ops.op rfl (OpOk.buildSliceV (hE.t _ _ ht) hk (hE.t _ _ he) hz hpos (elemsO_ok _ _ _ hel) hlen hlen2 hbig (Vm.blt hd)) h
theorem D.litV {Θ : List Rec → St → Prop} {t e : TypeId} {len : Nat} {parts : Array (Nat × Operand)} {i ie : TI} {xs : List PV} (hE : E.Ok) (ht : E.T t = some i) (hk : i.desc = .slc e) (he : E.T e = some ie) (hz : Nat.beq ie.zero.length ie.size = true) (hpos : Nat.blt 0 ie.size = true) (hel : elemsO E [] tm ie.size 0 parts.toList = some xs) (hlen : Nat.beq len parts.toList.length = true) (hlen2 : Nat.beq len xs.length = true)
    (hbig : Nat.ble (len * ie.size) 16777216 = true) (hd : Nat.blt d n = true) (h : Dr E.P E.g ops l ⟨n, (d, .pv (.lst ie.size xs)) :: tm, bx⟩ (fun rs => Θ (⟨rtsOf E tm (parts.toList.map (·.2)), [], [], some d, .pv (.lst ie.size xs), []⟩ :: rs))) : Dr E.P E.g ops (⟨some d, .buildSlice t len parts, ty, pos, after, none⟩ :: l) ⟨n, tm, bx⟩ Θ :=
  D.of (rt := rtsOf E tm (parts.toList.map (·.2))) (rb := []) (rts_now _) none_met hd (fun s hs _ hd' => OpOk.buildSliceV (s := s) (hE.t _ _ ht) hk (hE.t _ _ he) hz hpos (elemsO_ok (n := s.n) (tm := s.tm) (bx := s.bx) _ _ _ (elemsO_mono _ _ _ hel hs)) hlen hlen2 hbig hd') h
/-- Quotients and rests of numbers that are not below nought. -/
theorem O.quoE {Θ : St → Prop} {t t' : TypeId} {y z : Operand} {k : IntKind} {m j q : Int} (hy : evO E tm y = some (.pv (.int k m))) (hz : evO E tm z = some (.pv (.int k j))) (h0 : 0 ≤ m) (hj : 0 < j) (hq : k.wrap (m / j) = q) (hd : Nat.blt d n = true) (h : Ops E.P E.g ops l ⟨n, (d, .pv (.int k q)) :: tm, bx⟩ Θ) :
    Ops E.P E.g ops (⟨some d, .binOp .quo t y z t', ty, pos, after, none⟩ :: l) ⟨n, tm, bx⟩ Θ := by
  refine O.quo hy hz (by omega) hd ?_
  rw [Int.tdiv_eq_ediv_of_nonneg h0, hq]
  exact h
theorem O.remE {Θ : St → Prop} {t t' : TypeId} {y z : Operand} {k : IntKind} {m j : Int} (hy : evO E tm y = some (.pv (.int k m))) (hz : evO E tm z = some (.pv (.int k j))) (h0 : 0 ≤ m) (hj : 0 < j) (hd : Nat.blt d n = true) (h : Ops E.P E.g ops l ⟨n, (d, .pv (.int k (m % j))) :: tm, bx⟩ Θ) :
    Ops E.P E.g ops (⟨some d, .binOp .rem t y z t', ty, pos, after, none⟩ :: l) ⟨n, tm, bx⟩ Θ := by
  refine O.rem hy hz (by omega) hd ?_
  rw [Int.tmod_eq_emod_of_nonneg h0]
  exact h
end
end Go.Proofs.YtcbdhdblchmofaaDoor.Vm
