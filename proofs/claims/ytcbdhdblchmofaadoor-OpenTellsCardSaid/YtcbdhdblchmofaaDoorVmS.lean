/- The value machine, eighteenth part: arrays whose cells are a list of numbers that is not written out. Conditions: none. -/
import Derived.Test.YtcbdhdblchmofaaDoorVmR
namespace Go.Proofs.YtcbdhdblchmofaaDoor.Vm
open Go Go.RowKit
set_option linter.unusedVariables false
/-- Numbers as cells. -/
def ints (k : IntKind) (l : List Int) : List AV := l.map fun n => .pv (.int k n)
theorem ints_len (k : IntKind) (l : List Int) : (ints k l).length = l.length := by simp [ints]
theorem ints_at {k : IntKind} {l : List Int} {i : Nat} (h : i < l.length) : (ints k l)[i]? = some (.pv (.int k (l.getD i 0))) := by
  simp [ints, List.getElem?_map, List.getElem?_eq_getElem h, List.getD_eq_getElem?_getD]
theorem ints_app (k : IntKind) (a b : List Int) : ints k (a ++ b) = ints k a ++ ints k b := by simp [ints]
theorem ints_set (k : IntKind) (l : List Int) (i : Nat) (x : Int) : (ints k l).set i (.pv (.int k x)) = ints k (l.set i x) := by
  simp only [ints, List.map_set]
theorem setAt_one {α : Type} (cs : List α) (o : Nat) (x : α) (h : o < cs.length) : setAt cs o [x] = cs.set o x := by
  unfold setAt
  rw [List.set_eq_take_append_cons_drop, if_pos h]
  simp
theorem setAt_all {α : Type} (cs ys : List α) (h : ys.length = cs.length) : setAt cs 0 ys = ys := by
  unfold setAt
  simp [h]
theorem setAt_left {α : Type} (a b ys : List α) (h : ys.length = a.length) : setAt (a ++ b) 0 ys = ys ++ b := by
  unfold setAt
  simp [h]
theorem setAt_right {α : Type} (a b ys : List α) (o : Nat) : setAt (a ++ b) (a.length + o) ys = a ++ setAt b o ys := by
  unfold setAt
  simp [List.take_append, List.drop_append, Nat.add_assoc, List.take_of_length_le, List.drop_eq_nil_of_le]
section
variable {E : Env} {n : Nat} {tm : List (Nat × AV)} {bx : List (Nat × Box)} {ops : Array Oper} {l : List Oper} {d : Tmp} {ty : TypeId} {pos : String} {after : Array Edge}
theorem cells_ptr {s : St} {b o : Nat} {cs : List AV} (hb : look s.bx b = some (.var cs)) : s.cellsAt (.ptr b o) = some (cs.drop o) := by
  simp only [St.cellsAt, hb]
theorem load_one {i : TI} {cs : List AV} {o : Nat} {x : AV} (hi : aggD i.desc = false) (hx : cs[o]? = some x) : loadAV i (cs.drop o) = some x := by
  unfold loadAV
  rw [hi]
  simp [List.head?_drop, hx]
theorem load_agg {i : TI} {cs l : List AV} {o : Nat} (hi : aggD i.desc = true) (hl : l.length = i.size) (hx : (cs.drop o).take i.size = l) : loadAV i (cs.drop o) = some (.agg l) := by
  unfold loadAV
  rw [hi]
  have : i.size ≤ (cs.drop o).length := by
    have := congrArg List.length hx
    rw [List.length_take] at this
    omega
  have hb : i.size.ble (cs.drop o).length = true := Nat.ble_eq_true_of_le this
  simp only [hb, hx, cond_true]
/-- A cell of a variable. -/
theorem O.loadS {Θ : St → Prop} {t : TypeId} {y : Operand} {i : TI} {b o : Nat} {x : AV} {cs : List AV} (hE : E.Ok) (ht : E.T t = some i) (hi : aggD i.desc = false) (hy : evO E tm y = some (.ptr b o)) (hb : look bx b = some (.var cs)) (hx : cs[o]? = some x) (hd : Nat.blt d n = true) (h : Ops E.P E.g ops l ⟨n, (d, x) :: tm, bx⟩ Θ) :
    Ops E.P E.g ops (⟨some d, .load t y, ty, pos, after, none⟩ :: l) ⟨n, tm, bx⟩ Θ :=
  Ops.op rfl (OpOk.load (hE.t _ _ ht) (evO_ok hy) (cells_ptr hb) (load_one hi hx) (dlt hd)) h
theorem D.loadS {Θ : List Rec → St → Prop} {t : TypeId} {y : Operand} {i : TI} {b o : Nat} {x : AV} {cs : List AV} (hE : E.Ok) (ht : E.T t = some i) (hi : aggD i.desc = false) (hy : evO E tm y = some (.ptr b o)) (hb : look bx b = some (.var cs)) (hx : cs[o]? = some x) (hd : Nat.blt d n = true)
    (h : Dr E.P E.g ops l ⟨n, (d, x) :: tm, bx⟩ (fun rs => Θ (⟨rtOf y (.ptr b o), [(b, .var cs)], [], some d, x, []⟩ :: rs))) : Dr E.P E.g ops (⟨some d, .load t y, ty, pos, after, none⟩ :: l) ⟨n, tm, bx⟩ Θ :=
  D.of (rt := rtOf y (.ptr b o)) (rb := [(b, .var cs)]) (rt_now hy) (fun p hp => by simp at hp; subst hp; exact hb) hd (fun s hs hb' hd' => OpOk.load (s := s) (hE.t _ _ ht) (evO_ok (n := s.n) (bx := s.bx) (rt_ev hy hs)) (cells_ptr (hb' (b, .var cs) (by simp))) (load_one hi hx) (fun t ht => by obtain rfl := Option.some.inj ht; exact hd')) h
/-- A part of a variable. -/
theorem O.loadA {Θ : St → Prop} {t : TypeId} {y : Operand} {i : TI} {b o : Nat} {q cs : List AV} (hE : E.Ok) (ht : E.T t = some i) (hi : aggD i.desc = true) (hy : evO E tm y = some (.ptr b o)) (hb : look bx b = some (.var cs)) (hx : (cs.drop o).take i.size = q) (hq : q.length = i.size) (hd : Nat.blt d n = true) (h : Ops E.P E.g ops l ⟨n, (d, .agg q) :: tm, bx⟩ Θ) :
    Ops E.P E.g ops (⟨some d, .load t y, ty, pos, after, none⟩ :: l) ⟨n, tm, bx⟩ Θ :=
  Ops.op rfl (OpOk.load (hE.t _ _ ht) (evO_ok hy) (cells_ptr hb) (load_agg hi hq hx) (dlt hd)) h
theorem D.loadA {Θ : List Rec → St → Prop} {t : TypeId} {y : Operand} {i : TI} {b o : Nat} {q cs : List AV} (hE : E.Ok) (ht : E.T t = some i) (hi : aggD i.desc = true) (hy : evO E tm y = some (.ptr b o)) (hb : look bx b = some (.var cs)) (hx : (cs.drop o).take i.size = q) (hq : q.length = i.size) (hd : Nat.blt d n = true)
    (h : Dr E.P E.g ops l ⟨n, (d, .agg q) :: tm, bx⟩ (fun rs => Θ (⟨rtOf y (.ptr b o), [(b, .var cs)], [], some d, .agg q, []⟩ :: rs))) : Dr E.P E.g ops (⟨some d, .load t y, ty, pos, after, none⟩ :: l) ⟨n, tm, bx⟩ Θ :=
  D.of (rt := rtOf y (.ptr b o)) (rb := [(b, .var cs)]) (rt_now hy) (fun p hp => by simp at hp; subst hp; exact hb) hd (fun s hs hb' hd' => OpOk.load (s := s) (hE.t _ _ ht) (evO_ok (n := s.n) (bx := s.bx) (rt_ev hy hs)) (cells_ptr (hb' (b, .var cs) (by simp))) (load_agg hi hq hx) (fun t ht => by obtain rfl := Option.some.inj ht; exact hd')) h
/-- A cell behind an address that is no variable of the call's. -/
theorem load_e {i : TI} {cs : List PV} {x : PV} (hi : aggD i.desc = false) (hx : cs[0]? = some x) : loadAV i (cs.map .pv) = some (.pv x) := by
  unfold loadAV
  rw [hi]
  cases cs with
  | nil => simp at hx
  | cons a l => simp at hx; subst hx; rfl
theorem O.loadE {Θ : St → Prop} {t : TypeId} {y : Operand} {i : TI} {x : PV} {cs : List PV} (hE : E.Ok) (ht : E.T t = some i) (hi : aggD i.desc = false) (hy : evO E tm y = some (.eptr cs)) (hx : cs[0]? = some x) (hd : Nat.blt d n = true) (h : Ops E.P E.g ops l ⟨n, (d, .pv x) :: tm, bx⟩ Θ) :
    Ops E.P E.g ops (⟨some d, .load t y, ty, pos, after, none⟩ :: l) ⟨n, tm, bx⟩ Θ :=
  Ops.op rfl (OpOk.load (hE.t _ _ ht) (evO_ok hy) rfl (load_e hi hx) (dlt hd)) h
theorem D.loadE {Θ : List Rec → St → Prop} {t : TypeId} {y : Operand} {i : TI} {x : PV} {cs : List PV} (hE : E.Ok) (ht : E.T t = some i) (hi : aggD i.desc = false) (hy : evO E tm y = some (.eptr cs)) (hx : cs[0]? = some x) (hd : Nat.blt d n = true)
    (h : Dr E.P E.g ops l ⟨n, (d, .pv x) :: tm, bx⟩ (fun rs => Θ (⟨rtOf y (.eptr cs), [], [], some d, .pv x, []⟩ :: rs))) : Dr E.P E.g ops (⟨some d, .load t y, ty, pos, after, none⟩ :: l) ⟨n, tm, bx⟩ Θ :=
  D.of (rt := rtOf y (.eptr cs)) (rb := []) (rt_now hy) none_met hd (fun s hs hb' hd' => OpOk.load (s := s) (hE.t _ _ ht) (evO_ok (n := s.n) (bx := s.bx) (rt_ev hy hs)) rfl (load_e hi hx) (fun t ht => by obtain rfl := Option.some.inj ht; exact hd')) h
/-- Places in an array whose elements are one cell. -/
theorem O.ixS {Θ : St → Prop} {t e : TypeId} {y ix : Operand} {i ie : TI} {len b o : Nat} {k : IntKind} {m : Int} (hE : E.Ok) (ht : E.T t = some i) (hk : i.desc = .arr len e) (he : E.T e = some ie) (h1 : Nat.beq ie.size 1 = true) (hy : evO E tm y = some (.ptr b o)) (hix : evO E tm ix = some (.pv (.int k m))) (h0 : 0 ≤ m) (hm : m < len) (hd : Nat.blt d n = true)
    (h : Ops E.P E.g ops l ⟨n, (d, .ptr b (o + m.toNat)) :: tm, bx⟩ Θ) : Ops E.P E.g ops (⟨some d, .indexAddr t y ix, ty, pos, after, none⟩ :: l) ⟨n, tm, bx⟩ Θ :=
  O.indexA hE ht hk he hy hix h0 hm (by rw [Nat.eq_of_beq_eq_true h1, Nat.mul_one]) rfl hd h
theorem D.ixS {Θ : List Rec → St → Prop} {t e : TypeId} {y ix : Operand} {i ie : TI} {len b o : Nat} {k : IntKind} {m : Int} (hE : E.Ok) (ht : E.T t = some i) (hk : i.desc = .arr len e) (he : E.T e = some ie) (h1 : Nat.beq ie.size 1 = true) (hy : evO E tm y = some (.ptr b o)) (hix : evO E tm ix = some (.pv (.int k m))) (h0 : 0 ≤ m) (hm : m < len) (hd : Nat.blt d n = true)
    (h : Dr E.P E.g ops l ⟨n, (d, .ptr b (o + m.toNat)) :: tm, bx⟩ (fun rs => Θ (⟨rtOf y (.ptr b o) ++ rtOf ix (.pv (.int k m)), [], [], some d, .ptr b (o + m.toNat), []⟩ :: rs))) : Dr E.P E.g ops (⟨some d, .indexAddr t y ix, ty, pos, after, none⟩ :: l) ⟨n, tm, bx⟩ Θ :=
  D.of (rt := rtOf y (.ptr b o) ++ rtOf ix (.pv (.int k m))) (rb := []) (fun w hw => by
      rcases List.mem_append.1 hw with hw | hw
      · exact rt_now hy w hw
      · exact rt_now hix w hw) none_met hd (fun s hs _ hd' => OpOk.indexArr (s := s) (hE.t _ _ ht) hk (hE.t _ _ he) (evO_ok (n := s.n) (bx := s.bx) (rt_ev hy (fun p hp => hs p (mem_l hp)))) (evO_ok (n := s.n) (bx := s.bx) (rt_ev hix (fun p hp => hs p (mem_r hp)))) h0 hm (by rw [Nat.eq_of_beq_eq_true h1, Nat.mul_one]) rfl (fun t ht => by obtain rfl := Option.some.inj ht; exact hd')) h
theorem O.ixE {Θ : St → Prop} {t e : TypeId} {y ix : Operand} {i ie : TI} {len : Nat} {cs : List PV} {k : IntKind} {m : Int} (hE : E.Ok) (ht : E.T t = some i) (hk : i.desc = .arr len e) (he : E.T e = some ie) (h1 : Nat.beq ie.size 1 = true) (hy : evO E tm y = some (.eptr cs)) (hix : evO E tm ix = some (.pv (.int k m))) (h0 : 0 ≤ m) (hm : m < len) (hd : Nat.blt d n = true)
    (h : Ops E.P E.g ops l ⟨n, (d, .eptr (cs.drop m.toNat)) :: tm, bx⟩ Θ) : Ops E.P E.g ops (⟨some d, .indexAddr t y ix, ty, pos, after, none⟩ :: l) ⟨n, tm, bx⟩ Θ :=
  O.indexA hE ht hk he hy hix h0 hm (by rw [Nat.eq_of_beq_eq_true h1, Nat.mul_one]) rfl hd h
theorem D.ixE {Θ : List Rec → St → Prop} {t e : TypeId} {y ix : Operand} {i ie : TI} {len : Nat} {cs : List PV} {k : IntKind} {m : Int} (hE : E.Ok) (ht : E.T t = some i) (hk : i.desc = .arr len e) (he : E.T e = some ie) (h1 : Nat.beq ie.size 1 = true) (hy : evO E tm y = some (.eptr cs)) (hix : evO E tm ix = some (.pv (.int k m))) (h0 : 0 ≤ m) (hm : m < len) (hd : Nat.blt d n = true)
    (h : Dr E.P E.g ops l ⟨n, (d, .eptr (cs.drop m.toNat)) :: tm, bx⟩ (fun rs => Θ (⟨rtOf y (.eptr cs) ++ rtOf ix (.pv (.int k m)), [], [], some d, .eptr (cs.drop m.toNat), []⟩ :: rs))) : Dr E.P E.g ops (⟨some d, .indexAddr t y ix, ty, pos, after, none⟩ :: l) ⟨n, tm, bx⟩ Θ :=
  D.of (rt := rtOf y (.eptr cs) ++ rtOf ix (.pv (.int k m))) (rb := []) (fun w hw => by
      rcases List.mem_append.1 hw with hw | hw
      · exact rt_now hy w hw
      · exact rt_now hix w hw) none_met hd (fun s hs _ hd' => OpOk.indexArr (s := s) (hE.t _ _ ht) hk (hE.t _ _ he) (evO_ok (n := s.n) (bx := s.bx) (rt_ev hy (fun p hp => hs p (mem_l hp)))) (evO_ok (n := s.n) (bx := s.bx) (rt_ev hix (fun p hp => hs p (mem_r hp)))) h0 hm (by rw [Nat.eq_of_beq_eq_true h1, Nat.mul_one]) rfl (fun t ht => by obtain rfl := Option.some.inj ht; exact hd')) h
/-- A store whose cells are told by a law of lists. -/
theorem O.storeS {Θ : St → Prop} {t : TypeId} {y x : Operand} {i : TI} {b o : Nat} {z : AV} {cs ys cs' : List AV} (hE : E.Ok) (ht : E.T t = some i) (hy : evO E tm y = some (.ptr b o)) (hx : evO E tm x = some z) (hz : z.cells? = some ys) (hb : look bx b = some (.var cs)) (hn : ys.length = i.size) (ho : o + ys.length ≤ cs.length) (hcs : setAt cs o ys = cs')
    (h : Ops E.P E.g ops l ⟨n, tm, (b, .var cs') :: bx⟩ Θ) : Ops E.P E.g ops (⟨none, .store t y x, ty, pos, after, none⟩ :: l) ⟨n, tm, bx⟩ Θ :=
  Ops.op rfl (OpOk.store (hE.t _ _ ht) (evO_ok hy) (evO_ok hx) hz hb hn (Nat.ble_eq_true_of_le ho) hcs) h
theorem D.storeS {Θ : List Rec → St → Prop} {t : TypeId} {y x : Operand} {i : TI} {b o : Nat} {z : AV} {cs ys cs' : List AV} (hE : E.Ok) (ht : E.T t = some i) (hy : evO E tm y = some (.ptr b o)) (hx : evO E tm x = some z) (hz : z.cells? = some ys) (hb : look bx b = some (.var cs)) (hn : ys.length = i.size) (ho : o + ys.length ≤ cs.length) (hcs : setAt cs o ys = cs')
    (h : Dr E.P E.g ops l ⟨n, tm, (b, .var cs') :: bx⟩ (fun rs => Θ (⟨rtOf y (.ptr b o) ++ rtOf x z, [(b, .var cs)], [], none, .any, [(b, .var cs')]⟩ :: rs))) : Dr E.P E.g ops (⟨none, .store t y x, ty, pos, after, none⟩ :: l) ⟨n, tm, bx⟩ Θ := by
  refine Dr.cons (r := ⟨rtOf y (.ptr b o) ++ rtOf x z, [(b, .var cs)], [], none, .any, [(b, .var cs')]⟩) (.plain rfl rfl fun s hs => ?_) (met_mk (fun w hw => ?_) (fun p hp => by simp at hp; subst hp; exact hb) none_new rfl) h
  · exact OpOk.store (s := s) (hE.t _ _ ht) (evO_ok (n := s.n) (bx := s.bx) (rt_ev hy (fun p hp => hs.t p (mem_l hp)))) (evO_ok (n := s.n) (bx := s.bx) (rt_ev hx (fun p hp => hs.t p (mem_r hp)))) hz (hs.b (b, .var cs) (by simp)) hn (Nat.ble_eq_true_of_le ho) hcs
  · rcases List.mem_append.1 hw with hw | hw
    · exact rt_now hy w hw
    · exact rt_now hx w hw
theorem O.allocS {Θ : St → Prop} {t : TypeId} {i : TI} {cs : List AV} (hE : E.Ok) (b : Nat) (ht : E.T t = some i) (hc : i.zero.map .pv = cs) (hb : look bx b = none) (hd : Nat.blt d n = true) (h : Ops E.P E.g ops l ⟨n, (d, .ptr b 0) :: tm, (b, .var cs) :: bx⟩ Θ) :
    Ops E.P E.g ops (⟨some d, .alloc t, ty, pos, after, none⟩ :: l) ⟨n, tm, bx⟩ Θ := by
  subst hc
  exact Ops.op rfl (OpOk.alloc b (hE.t _ _ ht) hb (Vm.blt hd)) h
theorem ints_zero {k : IntKind} {m : Nat} : (List.replicate m (PV.int k 0)).map AV.pv = ints k (List.replicate m 0) := by simp [ints]
/-- Numbers' bits. -/
def bitI (b : BinOp) (k : IntKind) (m j : Int) : Option Int :=
  match b with
  | .and => some (k.wrap (BitVec.ofInt k.bits m &&& BitVec.ofInt k.bits j).toNat)
  | .or => some (k.wrap (BitVec.ofInt k.bits m ||| BitVec.ofInt k.bits j).toNat)
  | .xor => some (k.wrap (BitVec.ofInt k.bits m ^^^ BitVec.ofInt k.bits j).toNat)
  | .andNot => some (k.wrap (BitVec.ofInt k.bits m &&& ~~~(BitVec.ofInt k.bits j)).toNat)
  | _ => none
theorem bitI_ok {P : Program} {b : BinOp} {t : TypeId} {k : IntKind} {m j r : Int} (h : bitI b k m j = some r) : Vm.now P (Go.binOp b t (.int k m) (.int k j)) = some (.int k r) := by
  cases b <;> simp only [bitI] at h <;> first | (cases h; done) | skip
  all_goals
    obtain rfl := Option.some.inj h
    simp only [Go.binOp, Op.intBits, ne_eq, not_true, if_false]
    rfl
theorem wrap_nn {k : IntKind} (hk : k.signed = false) (x : Int) : 0 ≤ k.wrap x := by
  have hb : (0 : Int) < 2 ^ k.bits := by cases k <;> decide
  unfold IntKind.wrap
  simp only [hk, Bool.false_and, Bool.false_eq_true, if_false]
  exact Int.emod_nonneg _ (by omega)
/-- Two numbers, some operation: a number of that kind. -/
theorem O.bit {Θ : St → Prop} {b : BinOp} {t t' : TypeId} {y z : Operand} {k : IntKind} {m j r : Int} (hy : evO E tm y = some (.pv (.int k m))) (hz : evO E tm z = some (.pv (.int k j))) (hc : bitI b k m j = some r) (hd : Nat.blt d n = true) (h : Ops E.P E.g ops l ⟨n, (d, .pv (.int k r)) :: tm, bx⟩ Θ) :
    Ops E.P E.g ops (⟨some d, .binOp b t y z t', ty, pos, after, none⟩ :: l) ⟨n, tm, bx⟩ Θ :=
  O.bin (v := .int k r) hy hz rfl rfl (now_bin (bitI_ok hc)) rfl hd h
theorem D.bit {Θ : List Rec → St → Prop} {b : BinOp} {t t' : TypeId} {y z : Operand} {k : IntKind} {m j r : Int} (hy : evO E tm y = some (.pv (.int k m))) (hz : evO E tm z = some (.pv (.int k j))) (hc : bitI b k m j = some r) (hd : Nat.blt d n = true) (h : Dr E.P E.g ops l ⟨n, (d, .pv (.int k r)) :: tm, bx⟩ (fun rs => Θ (⟨rtOf y (.pv (.int k m)) ++ rtOf z (.pv (.int k j)), [], [], some d, .pv (.int k r), []⟩ :: rs))) :
    Dr E.P E.g ops (⟨some d, .binOp b t y z t', ty, pos, after, none⟩ :: l) ⟨n, tm, bx⟩ Θ :=
  D.bin (v := .int k r) hy hz rfl rfl (now_bin (bitI_ok hc)) rfl hd h
theorem shl_ok {P : Program} {t : TypeId} {k k' : IntKind} {m j : Int} (hj : 0 ≤ j) : Vm.now P (Go.binOp .shl t (.int k m) (.int k' j)) = some (.int k (k.wrap (m * 2 ^ (min j.toNat k.bits)))) := by
  simp only [Go.binOp, Op.shift]
  rw [if_neg (by omega)]; rfl
theorem shr_ok {P : Program} {t : TypeId} {k k' : IntKind} {m j : Int} (hj : 0 ≤ j) : Vm.now P (Go.binOp .shr t (.int k m) (.int k' j)) = some (.int k (m.fdiv (2 ^ (min j.toNat k.bits)))) := by
  simp only [Go.binOp, Op.shift]
  rw [if_neg (by omega)]; rfl
theorem D.shl {Θ : List Rec → St → Prop} {t t' : TypeId} {y z : Operand} {k k' : IntKind} {m j : Int} (hy : evO E tm y = some (.pv (.int k m))) (hz : evO E tm z = some (.pv (.int k' j))) (hj : 0 ≤ j) (hd : Nat.blt d n = true) (h : Dr E.P E.g ops l ⟨n, (d, .pv (.int k (k.wrap (m * 2 ^ (min j.toNat k.bits))))) :: tm, bx⟩ (fun rs => Θ (⟨rtOf y (.pv (.int k m)) ++ rtOf z (.pv (.int k' j)), [], [], some d, .pv (.int k (k.wrap (m * 2 ^ (min j.toNat k.bits)))), []⟩ :: rs))) :
    Dr E.P E.g ops (⟨some d, .binOp .shl t y z t', ty, pos, after, none⟩ :: l) ⟨n, tm, bx⟩ Θ :=
  D.bin (v := .int k (k.wrap (m * 2 ^ (min j.toNat k.bits)))) hy hz rfl rfl (now_bin (shl_ok hj)) rfl hd h
theorem D.shr {Θ : List Rec → St → Prop} {t t' : TypeId} {y z : Operand} {k k' : IntKind} {m j : Int} (hy : evO E tm y = some (.pv (.int k m))) (hz : evO E tm z = some (.pv (.int k' j))) (hj : 0 ≤ j) (hd : Nat.blt d n = true) (h : Dr E.P E.g ops l ⟨n, (d, .pv (.int k (m.fdiv (2 ^ (min j.toNat k.bits))))) :: tm, bx⟩ (fun rs => Θ (⟨rtOf y (.pv (.int k m)) ++ rtOf z (.pv (.int k' j)), [], [], some d, .pv (.int k (m.fdiv (2 ^ (min j.toNat k.bits)))), []⟩ :: rs))) :
    Dr E.P E.g ops (⟨some d, .binOp .shr t y z t', ty, pos, after, none⟩ :: l) ⟨n, tm, bx⟩ Θ :=
  D.bin (v := .int k (m.fdiv (2 ^ (min j.toNat k.bits)))) hy hz rfl rfl (now_bin (shr_ok hj)) rfl hd h
theorem not_ok {P : Program} {k : IntKind} {m : Int} : ∃ r : Int, Vm.now P (Op.unary .xor (.int k m)) = some (.int k r) := ⟨_, rfl⟩
end
section
variable {E : Env} {n : Nat} {tm : List (Nat × AV)} {bx : List (Nat × Box)} {ops : Array Oper} {l : List Oper} {d : Tmp} {ty : TypeId} {pos : String} {after : Array Edge}
theorem OpOk.un {P : Program} {g : Nat → Option (List PV)} {s : St} {dst : Option Tmp} {b : UnOp} {t : TypeId} {y : Operand} {gd : Option (Nat × Bool)} {p : PV} {u v : Value} {x : AV} (hy : s.ev g y = .pv p) (hp : p.val? = some u) (hn : Vm.now P (Op.unary b u) = some v) (hx : AV.ofVal v = some x) (hd : ∀ t, dst = some t → t < s.n) : OpOk P g ⟨dst, .unOp b t y, ty, pos, after, gd⟩ s (s.putO dst x) := by
  refine OpOk.val (o := ⟨dst, .unOp b t y, ty, pos, after, gd⟩) hd (fun cx a w G hP hg hs => ⟨v, ?_, RA.ofVal hx⟩)
  have h1 := hs.ev hg y
  rw [hy] at h1
  have e1 : a.eval y = u := h1.of_val hp
  have := now_run _ w hn
  subst hP
  simp only [execOp, e1, Sem.run_bind, this, Result.andThen_ok, Sem.run_pure]
theorem D.un {Θ : List Rec → St → Prop} {b : UnOp} {t : TypeId} {y : Operand} {p : PV} {u v : Value} {x : AV} (hy : evO E tm y = some (.pv p)) (hp : p.val? = some u) (hn : Vm.now E.P (Op.unary b u) = some v) (hx : AV.ofVal v = some x) (hd : Nat.blt d n = true)
    (h : Dr E.P E.g ops l ⟨n, (d, x) :: tm, bx⟩ (fun rs => Θ (⟨rtOf y (.pv p), [], [], some d, x, []⟩ :: rs))) : Dr E.P E.g ops (⟨some d, .unOp b t y, ty, pos, after, none⟩ :: l) ⟨n, tm, bx⟩ Θ :=
  D.of (rt := rtOf y (.pv p)) (rb := []) (rt_now hy) none_met hd (fun s hs _ hd' => OpOk.un (s := s) (evO_ok (n := s.n) (bx := s.bx) (rt_ev hy hs)) hp hn hx (fun t ht => by obtain rfl := Option.some.inj ht; exact hd')) h
def notI (k : IntKind) (m : Int) : Int := k.wrap (BitVec.ofInt k.bits (if k.signed then -1 else k.max) ^^^ BitVec.ofInt k.bits m).toNat
theorem O.notB {Θ : St → Prop} {t : TypeId} {y : Operand} {k : IntKind} {m : Int} (hy : evO E tm y = some (.pv (.int k m))) (hd : Nat.blt d n = true) (h : Ops E.P E.g ops l ⟨n, (d, .pv (.int k (notI k m))) :: tm, bx⟩ Θ) : Ops E.P E.g ops (⟨some d, .unOp .xor t y, ty, pos, after, none⟩ :: l) ⟨n, tm, bx⟩ Θ :=
  O.un (v := .int k (notI k m)) hy rfl rfl rfl hd h
theorem D.notB {Θ : List Rec → St → Prop} {t : TypeId} {y : Operand} {k : IntKind} {m : Int} (hy : evO E tm y = some (.pv (.int k m))) (hd : Nat.blt d n = true) (h : Dr E.P E.g ops l ⟨n, (d, .pv (.int k (notI k m))) :: tm, bx⟩ (fun rs => Θ (⟨rtOf y (.pv (.int k m)), [], [], some d, .pv (.int k (notI k m)), []⟩ :: rs))) : Dr E.P E.g ops (⟨some d, .unOp .xor t y, ty, pos, after, none⟩ :: l) ⟨n, tm, bx⟩ Θ :=
  D.un (v := .int k (notI k m)) hy rfl rfl rfl hd h
end
theorem setAt_ints {k : IntKind} {l : List Int} {o : Nat} {x : Int} (h : o < l.length) : setAt (ints k l) o [.pv (.int k x)] = ints k (l.set o x) := by
  rw [setAt_one _ _ _ (by rw [ints_len]; exact h), ints_set]
theorem ints_take {k : IntKind} {l : List Int} {m : Nat} (h : l.length = m) : ((ints k l).drop 0).take m = ints k l := by
  rw [List.drop_zero, List.take_of_length_le (by rw [ints_len]; omega)]
end Go.Proofs.YtcbdhdblchmofaaDoor.Vm
