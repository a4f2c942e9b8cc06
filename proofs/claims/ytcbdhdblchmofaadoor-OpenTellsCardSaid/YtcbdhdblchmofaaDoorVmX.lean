/- The value machine, twenty-third part: literals of bytes that a conversion to their own type marks. Conditions: none. -/
import Derived.Test.YtcbdhdblchmofaaDoorVmW
namespace Go.Proofs.YtcbdhdblchmofaaDoor.Vm
open Go Go.RowKit
set_option linter.unusedVariables false
set_option linter.unusedSimpArgs false
def markW (W : World) (e : TypeId) (cs : Array Value) : World := (W.alloc (.cells cs e)).freeze ⟨W.heap.size, cs.size, none⟩ 1
theorem markW_old (w : World) (e : TypeId) (cs : Array Value) (j : Nat) (hj : j < w.heap.size) : (markW w e cs).heap[j]? = w.heap[j]? := by
  have h1 : w.heap.size ≠ j := by omega
  simp [markW, World.freeze, World.alloc, -World.alloc_eq, Array.getElem?_modify, Array.getElem?_push, h1, Ne.symm h1]
theorem markW_new (w : World) (e : TypeId) (cs : Array Value) : (markW w e cs).heap[w.heap.size]? = some (.cells cs e (cs.size, cs.size + 1)) := by
  simp [markW, World.freeze, World.alloc, -World.alloc_eq]
  rw [Array.getElem_modify_self]
  simp
theorem markW_size (w : World) (e : TypeId) (cs : Array Value) : (markW w e cs).heap.size = w.heap.size + 1 := by
  simp [markW, World.freeze, World.alloc, -World.alloc_eq]
section
variable {P : Program} {g : Nat → Option (List PV)} {s : St}
theorem RunsOps.lit2 {ops : Array Oper} {l : List Oper} {s' : St} {d1 d2 : Tmp} {t e : TypeId} {len : Nat} {parts : Array (Nat × Operand)} {ty ty2 : TypeId} {pos pos2 : String} {after after2 : Array Edge} {i ie : TI} {xs : List PV} (ht : tiOf P t = some i) (hk : i.desc = .slc e) (he : tiOf P e = some ie) (hek : ie.desc = .int .u8)
    (hz : Nat.beq ie.zero.length ie.size = true) (hpos : Nat.blt 0 ie.size = true) (hel : elems s g ie.size 0 parts.toList = some xs) (hlen : Nat.beq len parts.toList.length = true) (hlen2 : Nat.beq len xs.length = true) (hbig : Nat.ble (len * ie.size) 16777216 = true) (hd1 : d1 < s.n) (hd2 : d2 < s.n)
    (h2 : RunsOps P g ops l ((s.put d1 (.pv (.lst ie.size xs))).put d2 (.pv (.lst ie.size xs))) s') :
    RunsOps P g ops (⟨some d1, .buildSlice t len parts, ty, pos, after, none⟩ :: ⟨some d2, .convert t t (.tmp d1), ty2, pos2, after2, none⟩ :: l) s s' := by
  intro cx a w G hP hg hs Q hQ
  have hz := Nat.eq_of_beq_eq_true hz
  have hpos := Nat.le_of_ble_eq_true hpos
  have hlen := Nat.eq_of_beq_eq_true hlen
  have hlen2 := Nat.eq_of_beq_eq_true hlen2
  have hbig := Nat.le_of_ble_eq_true hbig
  obtain ⟨inf, z, dd, i1, i2, i3, i4, i5, i6, i7⟩ := tiOf_ok he
  have hzc : z.cells.size = ie.size := by
    have := (pvOfs_ok (G := G) _ _ i7).1
    rw [Array.length_toList] at this
    rw [this, hz]
  obtain ⟨us, rs, k1, k2, k3⟩ := run_elems hs hg parts.toList 0 xs ((Array.range (len * ie.size)).map (fun j => z.cells[j % z.cells.size]!)) [] hel (by simp) (by simp [hlen]) (by simp)
  simp only [List.nil_append] at k3
  have hxl : xs.length ≤ maxLen := by
    have h1 : len ≤ len * ie.size := Nat.le_mul_of_pos_right _ hpos
    simp only [maxLen]; omega
  have hu := run_underlying (tiOf_slc ht hk)
  have hue := run_underlying (tiOf_int he hek)
  have hrun : (execOp a.eval ⟨some d1, .buildSlice t len parts, ty, pos, after, none⟩).run P w = .ok (.value (.slice (some ⟨w.heap.size, 0, none⟩) len len)) (w.alloc (.cells rs e)) := by
    simp only [execOp, Instr.buildSlice, Sem.run_bind, hu, tiOf_size he, Result.andThen_ok]
    rw [if_neg (by omega)]
    have hpl : (parts.map fun (i, x) => (i, a.eval x)).toList = parts.toList.map (fun (i, x) => (i, a.eval x)) := by simp
    by_cases c : len * ie.size = 0
    · rw [if_pos c]
      have hsame : (Array.range (len * ie.size)).map (fun j => (#[] : Array Value)[j % (#[] : Array Value).size]!) = (Array.range (len * ie.size)).map (fun j => z.cells[j % z.cells.size]!) := by
        rw [c]; simp
      simp only [Sem.run_bind, Sem.run_pure, Result.andThen_ok, hsame, hpl, k2]
      simp [newRow, newObj, Sem.run, World.alloc, -World.alloc_eq, Sem.run_bind, Result.andThen]
    · rw [if_neg c]
      have hzv : (zeroValue e).run P w = .ok z w := by simp [zeroValue, typeInfo, i1, i6]
      simp only [Sem.run_bind, Sem.run_pure, Result.andThen_ok, hzv, hpl, k2]
      simp [newRow, newObj, Sem.run, World.alloc, -World.alloc_eq, Sem.run_bind, Result.andThen]
  have hsz1 : a.tmps.size = s.n := hs.sz
  have hev : (a.put (some d1) (.slice (some ⟨w.heap.size, 0, none⟩) len len)).eval (.tmp d1) = .slice (some ⟨w.heap.size, 0, none⟩) len len := by
    have : d1 < a.tmps.size := by rw [hsz1]; exact hd1
    simp [Act.eval, Act.put, Array.getD_eq_getD_getElem?, this]
  have hrun2 : (execOp (a.put (some d1) (.slice (some ⟨w.heap.size, 0, none⟩) len len)).eval ⟨some d2, .convert t t (.tmp d1), ty2, pos2, after2, none⟩).run P (w.alloc (.cells rs e)) = .ok (.value (.slice (some ⟨w.heap.size, 0, none⟩) len len)) (markW w e rs) := by
    have hsh : (w.alloc (.cells rs e)).shape? w.heap.size = some (e, rs.size) := by
      simp [World.shape?, World.alloc, -World.alloc_eq]
    unfold execOp
    simp [hev, convert, hu, hue, markStringish, hsh, Result.andThen, markW]
  have hcell : ∀ (o : Nat) v, rs[o]? = some v → (markW w e rs).cell? ⟨w.heap.size, o, none⟩ = some v := fun o v hv => by
    simp [World.cell?, markW_new, hv]
  obtain ⟨G', j1, j2, j3⟩ := hs.newDat (w' := markW w e rs) (fun o => rs[o]?) (by rw [markW_size]; omega) (fun k hk => markW_old w e rs k hk)
    (hs.bel.trans ⟨rfl, rfl, rfl, by rw [markW_size]; omega, fun k hk => markW_old w e rs k (by have := hs.basele; omega)⟩) hcell
  have hrp : RP G'.dat (.lst ie.size xs) (.slice (some ⟨w.heap.size, 0, none⟩) len len) := by
    refine .lst ie.size xs _ _ _ hlen2 (Nat.le_refl _) (by omega) k1.hz k1.h1 (fun h => by cases h) (fun ad h => by obtain rfl := Option.some.inj h; rfl) (fun ad q j p x ha hp hx => ?_) (fun ad q j p x v ha hp hx hv => ?_)
    · obtain rfl := Option.some.inj ha
      have hq := (List.getElem?_eq_some_iff.1 hp).1
      have hj := (List.getElem?_eq_some_iff.1 hx).1
      have hpz := k1.hz p (List.mem_of_getElem? hp)
      have hlt : q * ie.size + j < us.length := by rw [k1.len]; exact idx_lt hq (by omega)
      simp only [Nat.zero_add]
      rw [j2, ← Array.getElem?_toList, k3]
      exact ⟨_, List.getElem?_eq_getElem hlt⟩
    · obtain rfl := Option.some.inj ha
      simp only [Nat.zero_add] at hv
      rw [j2, ← Array.getElem?_toList, k3] at hv
      exact (k1.rel q j p x v hp hx hv).mono j1.1
  refine wpList_plain rfl fun K hK => ?_
  unfold Oper.wp
  rw [hrun]
  refine hK _ _ ?_
  refine wpList_plain rfl fun K2 hK2 => ?_
  unfold Oper.wp
  rw [hrun2]
  refine hK2 _ _ ?_
  exact h2 cx _ _ G' hP hg ((j3.put hd1 (.pv _ _ hrp)).put hd2 (.pv _ _ hrp)) Q hQ
end
section
variable {E : Env} {n : Nat} {tm : List (Nat × AV)} {bx : List (Nat × Box)} {ops : Array Oper} {l : List Oper} {Θ : St → Prop} {d1 d2 : Tmp}
theorem O.lit2 {t e : TypeId} {len : Nat} {parts : Array (Nat × Operand)} {ty ty2 : TypeId} {pos pos2 : String} {after after2 : Array Edge} {i ie : TI} {xs : List PV} (hE : E.Ok) (ht : E.T t = some i) (hk : i.desc = .slc e) (he : E.T e = some ie) (hek : ie.desc = .int .u8)
    (hz : Nat.beq ie.zero.length ie.size = true) (hpos : Nat.blt 0 ie.size = true) (hel : elemsO E bx tm ie.size 0 parts.toList = some xs) (hlen : Nat.beq len parts.toList.length = true) (hlen2 : Nat.beq len xs.length = true) (hbig : Nat.ble (len * ie.size) 16777216 = true) (hd1 : Nat.blt d1 n = true) (hd2 : Nat.blt d2 n = true)
    (h : Ops E.P E.g ops l ⟨n, (d2, .pv (.lst ie.size xs)) :: (d1, .pv (.lst ie.size xs)) :: tm, bx⟩ Θ) :
    Ops E.P E.g ops (⟨some d1, .buildSlice t len parts, ty, pos, after, none⟩ :: ⟨some d2, .convert t t (.tmp d1), ty2, pos2, after2, none⟩ :: l) ⟨n, tm, bx⟩ Θ := by
  unfold Ops at h ⊢
  obtain ⟨s', h1, h2⟩ := h
  exact ⟨s', RunsOps.lit2 (s := ⟨n, tm, bx⟩) (hE.t _ _ ht) hk (hE.t _ _ he) hek hz hpos (elemsO_ok _ _ _ hel) hlen hlen2 hbig (Vm.blt hd1) (Vm.blt hd2) h1, h2⟩
end
end Go.Proofs.YtcbdhdblchmofaaDoor.Vm
