/- Tapes: parts of arrays as slices, numbers of bytes, sums of bytes. Conditions: none. -/
import Derived.Test.YtalcpfpjkfpmbaaDiskE
namespace Go.Proofs.Ytalcpfpjkfpmbaa.Vm
open Go Go.RowKit
set_option linter.unusedVariables false
set_option linter.unusedSimpArgs false
section
variable {P : Program} {g : Gb} {s : St}
theorem eptr_lst {G : Gh} {k : IntKind} {l : List Int} {ad : Addr} (hsp : ad.spot = none) (hcells : ∀ (j : Nat) x, (l.map (PV.int k))[j]? = some x → ∃ v, G.dat ad.block (ad.off + j) = some v ∧ RP G.dat x v) (hmx : l.length ≤ maxLen) : RP G.dat (.lst 1 (l.map (PV.int k))) (.slice (some ad) l.length l.length) := by
  refine .lst 1 _ _ _ _ (by simp) (Nat.le_refl _) hmx (fun p hp => ?_) (fun p hp q hq => ?_) (fun h => by cases h) (fun a' h => by obtain rfl := Option.some.inj h; exact hsp) (fun a' q j p x ha hp hx => ?_) (fun a' q j p x v' ha hp hx hv' => ?_)
  · obtain ⟨z, _, rfl⟩ := List.mem_map.1 hp; rfl
  · obtain ⟨z, _, rfl⟩ := List.mem_map.1 hp
    simp [PV.cells] at hq
    subst hq; rfl
  · obtain rfl := Option.some.inj ha
    have hp' := hp
    rw [List.getElem?_map, Option.map_eq_some_iff] at hp
    obtain ⟨z, hz, rfl⟩ := hp
    cases j with
    | zero =>
      obtain ⟨v', e1, _⟩ := hcells q _ hp'
      exact ⟨v', by simpa using e1⟩
    | succ j => simp [PV.cells] at hx
  · obtain rfl := Option.some.inj ha
    have hp' := hp
    rw [List.getElem?_map, Option.map_eq_some_iff] at hp
    obtain ⟨z, hz, rfl⟩ := hp
    cases j with
    | zero =>
      obtain ⟨v2, e1, e2⟩ := hcells q _ hp'
      simp only [Nat.mul_one, Nat.add_zero] at hv'
      rw [e1] at hv'
      obtain rfl := Option.some.inj hv'
      simp [PV.cells] at hx
      subst hx
      exact e2
    | succ j => simp [PV.cells] at hx
/-- A part of an array that is read alone, as a slice. -/
theorem OpOk.sliceEB {dst : Option Tmp} {t e : TypeId} {y lo hi : Operand} {ty : TypeId} {pos : String} {after : Array Edge} {gd : Option (Nat × Bool)} {i ie : TI} {len : Nat} {k kl kh : IntKind} {q : List Int} {ys : List PV} {a b : Int} (ht : tiOf P t = some i) (hk : i.desc = .arr len e) (he : tiOf P e = some ie) (h1e : ie.size = 1) (hy : s.ev g y = .eptr (q.map (PV.int k))) (hl : q.length = len) (hmx : len ≤ maxLen)
    (hlo : s.ev g lo = .pv (.int kl a)) (hhi : s.ev g hi = .pv (.int kh b)) (h0 : 0 ≤ a) (h1 : a ≤ b) (h2 : b ≤ len) (hys : ((q.map (PV.int k)).take b.toNat).drop a.toNat = ys)
    (hd : ∀ t, dst = some t → t < s.n) : OpOk P g ⟨dst, .slice t y (some lo) (some hi) none, ty, pos, after, gd⟩ s (s.putO dst (.pv (.lst 1 ys))) := by
  refine OpOk.val (o := ⟨dst, .slice t y (some lo) (some hi) none, ty, pos, after, gd⟩) hd (fun cx c w G hP hg hs => ?_)
  have g1 := hs.ev hg y
  rw [hy] at g1
  generalize hv : c.eval y = v at g1
  have g2 := hs.ev hg lo
  rw [hlo] at g2
  have g2 := g2.int
  have g3 := hs.ev hg hi
  rw [hhi] at g3
  have g3 := g3.int
  obtain ⟨a1, a2, a3⟩ := arr_facts ht hk
  cases g1 with
  | eptr _ ad hsp hcells =>
    have hw := (eptr_lst hsp hcells (by rw [hl]; exact hmx)).slice (l := a.toNat) (h := b.toNat) (m := len) (by omega) (by omega) (by omega) (by omega)
    rw [hys] at hw
    refine ⟨_, ?_, .pv _ _ hw⟩
    have hr := run_sliceAt_array_lh (P := P) w t ad a3 kl kh a b h0 h1 (by rw [a1]; exact h2)
    rw [a1, a2, tiOf_size he w, h1e] at hr
    simp only [execOp, hv, Option.map_some, Option.map_none, g2, g3, hr, Sem.run_bind, Result.andThen_ok, slicedAt]
    by_cases hz : len = a.toNat
    · simp [Sem.run, if_pos hz]
    · simp [Sem.run, if_neg hz]
/-- An element of an array, by value. -/
theorem OpOk.ixVal {dst : Option Tmp} {t e : TypeId} {y ix : Operand} {ty : TypeId} {pos : String} {after : Array Edge} {gd : Option (Nat × Bool)} {i ie : TI} {len : Nat} {k ki : IntKind} {S : List Int} {j x : Int} (ht : tiOf P t = some i) (hk : i.desc = .arr len e) (he : tiOf P e = some ie) (h1e : ie.size = 1) (hpk : P.plainKey e = true) (hy : s.ev g y = .agg ((S.map (PV.int k)).map AV.pv)) (hl : S.length = len)
    (hix : s.ev g ix = .pv (.int ki j)) (h0 : 0 ≤ j) (hx : S[j.toNat]? = some x) (hd : ∀ t, dst = some t → t < s.n) : OpOk P g ⟨dst, .index t y ix, ty, pos, after, gd⟩ s (s.putO dst (.pv (.int k x))) := by
  refine OpOk.val (o := ⟨dst, .index t y ix, ty, pos, after, gd⟩) hd (fun cx a w G hP hg hs => ⟨.int k x, ?_, .pv _ _ (.int _ _)⟩)
  have h1 := hs.ev hg y
  have h2 := hs.ev hg ix
  rw [hy, show (S.map (PV.int k)).map AV.pv = ints k S by simp [ints]] at h1
  rw [hix] at h2
  have h2 := h2.int
  have e1 : a.eval y = .agg (S.map (Value.int k)).toArray := h1.of_flat (by simp [AV.flat?, vals_ints])
  subst hP
  obtain ⟨a1, a2, a3⟩ := arr_facts ht hk
  rw [a1, a2] at a3
  obtain ⟨hj, rfl⟩ := List.getElem?_eq_some_iff.1 hx
  have hp : (part e (S.map (Value.int k)).toArray (j.toNat * 1)).run cx.P w = .ok (.int k S[j.toNat]) w := run_part_plain w hpk (by simp [hj])
  have hb : 0 ≤ j ∧ j < (len : Int) := by omega
  simp only [execOp, e1, h2, Instr.index, asIntOf, Sem.run_bind, Sem.run_pure, Result.andThen_ok, run_underlying a3, if_pos hb, tiOf_size he w, h1e, hp]
end
section
variable {E : Env} {n : Nat} {tm : List (Nat × AV)} {bx : List (Nat × Box)} {ops : Array Oper} {l : List Oper} {d : Tmp} {ty : TypeId} {pos : String} {after : Array Edge}
theorem O.sliceEB {Θ : St → Prop} {t e : TypeId} {y lo hi : Operand} {i ie : TI} {len : Nat} {k kl kh : IntKind} {q : List Int} {ys : List PV} {a b : Int} (hE : E.Ok) (ht : E.T t = some i) (hk : i.desc = .arr len e) (he : E.T e = some ie) (h1e : ie.size = 1) (hy : evO E tm y = some (.eptr (q.map (PV.int k)))) (hl : q.length = len) (hmx : Nat.ble len 1000000 = true)
    (hlo : evO E tm lo = some (.pv (.int kl a))) (hhi : evO E tm hi = some (.pv (.int kh b))) (h0 : 0 ≤ a) (h1 : a ≤ b) (h2 : b ≤ len) (hys : ((q.map (PV.int k)).take b.toNat).drop a.toNat = ys) (hd : Nat.blt d n = true)
    (h : Ops E.P E.g ops l ⟨n, (d, .pv (.lst 1 ys)) :: tm, bx⟩ Θ) : Ops E.P E.g ops (⟨some d, .slice t y (some lo) (some hi) none, ty, pos, after, none⟩ :: l) ⟨n, tm, bx⟩ Θ :=
  Ops.op rfl (OpOk.sliceEB (hE.t _ _ ht) hk (hE.t _ _ he) h1e (evO_ok hy) hl (by have := Nat.le_of_ble_eq_true hmx; unfold maxLen; omega) (evO_ok hlo) (evO_ok hhi) h0 h1 h2 hys (dlt hd)) h
theorem O.ixVal {Θ : St → Prop} {t e : TypeId} {y ix : Operand} {i ie : TI} {len : Nat} {k ki : IntKind} {S : List Int} {j x : Int} (hE : E.Ok) (ht : E.T t = some i) (hk : i.desc = .arr len e) (he : E.T e = some ie) (h1e : ie.size = 1) (hpk : E.P.plainKey e = true) (hy : evO E tm y = some (.agg ((S.map (PV.int k)).map AV.pv))) (hl : S.length = len)
    (hix : evO E tm ix = some (.pv (.int ki j))) (h0 : 0 ≤ j) (hx : S[j.toNat]? = some x) (hd : Nat.blt d n = true)
    (h : Ops E.P E.g ops l ⟨n, (d, .pv (.int k x)) :: tm, bx⟩ Θ) : Ops E.P E.g ops (⟨some d, .index t y ix, ty, pos, after, none⟩ :: l) ⟨n, tm, bx⟩ Θ :=
  Ops.op rfl (OpOk.ixVal (hE.t _ _ ht) hk (hE.t _ _ he) h1e hpk (evO_ok hy) hl (evO_ok hix) h0 hx (dlt hd)) h
theorem O.shrQ {Θ : St → Prop} {t t' : TypeId} {y z : Operand} {k k' : IntKind} {m j q : Int} (hy : evO E tm y = some (.pv (.int k m))) (hz : evO E tm z = some (.pv (.int k' j))) (hj : 0 ≤ j) (hq : m.fdiv (2 ^ (Min.min j.toNat k.bits)) = q) (hd : Nat.blt d n = true) (h : Ops E.P E.g ops l ⟨n, (d, .pv (.int k q)) :: tm, bx⟩ Θ) :
    Ops E.P E.g ops (⟨some d, .binOp .shr t y z t', ty, pos, after, none⟩ :: l) ⟨n, tm, bx⟩ Θ := by
  subst hq
  exact O.shr hy hz hj hd h
theorem O.shlQ {Θ : St → Prop} {t t' : TypeId} {y z : Operand} {k k' : IntKind} {m j q : Int} (hy : evO E tm y = some (.pv (.int k m))) (hz : evO E tm z = some (.pv (.int k' j))) (hj : 0 ≤ j) (hq : k.wrap (m * 2 ^ (Min.min j.toNat k.bits)) = q) (hd : Nat.blt d n = true) (h : Ops E.P E.g ops l ⟨n, (d, .pv (.int k q)) :: tm, bx⟩ Θ) :
    Ops E.P E.g ops (⟨some d, .binOp .shl t y z t', ty, pos, after, none⟩ :: l) ⟨n, tm, bx⟩ Θ := by
  subst hq
  exact O.shl hy hz hj hd h
theorem O.convQ {Θ : St → Prop} {sr t : TypeId} {y : Operand} {k k' : IntKind} {m q : Int} {i is : TI} (hE : E.Ok) (hs0 : E.T sr = some is) (ht : E.T t = some i) (hk : i.desc = .int k') (hy : evO E tm y = some (.pv (.int k m))) (hq : k'.wrap m = q) (hd : Nat.blt d n = true)
    (h : Ops E.P E.g ops l ⟨n, (d, .pv (.int k' q)) :: tm, bx⟩ Θ) : Ops E.P E.g ops (⟨some d, .convert sr t y, ty, pos, after, none⟩ :: l) ⟨n, tm, bx⟩ Θ := by
  subst hq
  exact O.conv hE hs0 ht hk hy hd h
end
attribute [local irreducible] Ops Dr Run
/-- Bytes. -/
def bOk (l : List Int) : Prop := ∀ z ∈ l, 0 ≤ z ∧ z < 256
/-- A number of bytes, the greatest first. -/
def numP (b : List Int) : Int := b.foldl (fun n c => n * 256 + c) 0
theorem numP_take {b : List Int} {j : Nat} {c : Int} (h : b[j]? = some c) : numP (b.take (j + 1)) = numP (b.take j) * 256 + c := by
  unfold numP
  rw [List.take_add_one, h, List.foldl_append]; rfl
theorem numP_lt {b : List Int} (hb : bOk b) (hl : b.length ≤ 4) : ∀ j, j ≤ b.length → 0 ≤ numP (b.take j) ∧ numP (b.take j) < 256 ^ j
  | 0, _ => by simp [numP]
  | j + 1, h => by
    have ih := numP_lt hb hl j (by omega)
    obtain ⟨c, hc⟩ : ∃ c, b[j]? = some c := ⟨_, List.getElem?_eq_getElem (by omega)⟩
    have := hb c (List.mem_of_getElem? hc)
    rw [numP_take hc]
    have e : (256 : Int) ^ (j + 1) = 256 ^ j * 256 := Int.pow_succ _ _
    omega
theorem or_i64 {x c : Int} (hx : 0 ≤ x ∧ x < 16777216) (hc : 0 ≤ c ∧ c < 256) : bitI .or .i64 (x * 256) c = some (x * 256 + c) := by
  obtain ⟨x, rfl⟩ := Int.eq_ofNat_of_zero_le hx.1
  obtain ⟨c, rfl⟩ := Int.eq_ofNat_of_zero_le hc.1
  have h0 : bitI .or .i64 ((x : Int) * 256) (c : Int) = some (IntKind.i64.wrap ((BitVec.ofInt 64 ((x : Int) * 256) ||| BitVec.ofInt 64 (c : Int)).toNat : Int)) := rfl
  have e1 : BitVec.ofInt 64 ((x : Int) * 256) = BitVec.ofNat 64 (x * 256) := by
    rw [show ((x : Int) * 256) = ((x * 256 : Nat) : Int) by omega]; rfl
  have e2 : BitVec.ofInt 64 (c : Int) = BitVec.ofNat 64 c := rfl
  have e := Nat.two_pow_add_eq_or_of_lt (i := 8) (b := c) (by omega) x
  rw [show (2 : Nat) ^ 8 = 256 from rfl, Nat.mul_comm] at e
  have e64 : (2 : Nat) ^ 64 = 18446744073709551616 := by decide +kernel
  rw [h0, e1, e2, BitVec.toNat_or, BitVec.toNat_ofNat, BitVec.toNat_ofNat, e64, Nat.mod_eq_of_lt (by omega), Nat.mod_eq_of_lt (by omega), ← e]
  exact congrArg some (by rw [wrap_i64 (by omega) (by omega)]; omega)
variable {g : Nat → Option (List PV)}
theorem fnNumber {b : List Int} (hb : bOk b) (hl : b.length ≤ 4) : FnC (En Try.prog g) 18 [.pv (.lst 1 (b.map (PV.int .u8)))] (.pv (.int .i64 (numP b))) [] := by
  have hE := EnOk g
  have hlt := numP_lt hb hl
  refine FnC.of Try.func18 rfl rfl rfl rfl ?_
  repeat (first | refine Run.seq ?_ | refine Run.skip ?_ | refine Run.block ?_)
  refine Run.region ?_
  refine O.assign rfl rfl ?_
  refine O.nil ?_
  try refine Run.keep [0, 2, 3, 5, 6, 7, 8, 9] rfl rfl ?_
  repeat (first | refine Run.seq ?_ | refine Run.skip ?_ | refine Run.block ?_)
  refine Run.region ?_
  refine O.assign rfl rfl ?_
  refine O.nil ?_
  try refine Run.keep [0, 2, 3, 5, 6, 7, 8, 9] rfl rfl ?_
  repeat (first | refine Run.seq ?_ | refine Run.skip ?_ | refine Run.block ?_)
  refine Run.region ?_
  refine O.move rfl rfl ?_
  first | refine O.lenN hE T32 rfl rfl rfl (by first | exact newest_pv | exact newest_gl rfl rfl | trivial) lenC rfl ?_ | refine O.lenLst hE T32 rfl rfl rfl (by first | exact newest_pv | exact newest_gl rfl rfl | trivial) rfl ?_
  refine O.move rfl rfl ?_
  refine O.nil ?_
  try refine Run.keep [0, 2, 3, 5, 6, 7, 8, 9] rfl rfl ?_
  repeat (first | refine Run.seq ?_ | refine Run.skip ?_)
  refine Run.block ?_
  have hlm : (((b.map (PV.int .u8)).length : Nat) : Int) = b.length := by simp
  refine Run.loopInv (ι := Nat) (fun j => j ≤ b.length) (fun j => ⟨19, [(3, .pv (.int .i64 (numP (b.take j)))), (6, .pv (.lst 1 (b.map (PV.int .u8)))), (7, .pv (.int .i64 b.length)), (8, .pv (.int .i64 (j : Int)))], []⟩) (fun j => b.length - j) 0 (Nat.zero_le _) ?_ ?_
  ·
    exact SLe.drop (by repeat (first | exact TmIn.nil | refine TmIn.cons rfl ?_)) (by repeat (first | exact BxIn.nil | refine BxIn.cons rfl ?_)) rfl rfl
  rintro j hj ih
  by_cases hlt' : j < b.length
  ·
    obtain ⟨c, hc⟩ : ∃ c, b[j]? = some c := ⟨_, List.getElem?_eq_getElem hlt'⟩
    have hc8 := hb c (List.mem_of_getElem? hc)
    have hat : (b.map (PV.int .u8))[(j : Int).toNat]? = some (PV.int .u8 c) := by rw [Int.toNat_natCast, List.getElem?_map, hc]; rfl
    have hst := numP_take hc
    obtain ⟨l1, l2⟩ := hlt j (by omega)
    have l3 : (256 : Int) ^ j ≤ 16777216 := by
      have : j = 0 ∨ j = 1 ∨ j = 2 ∨ j = 3 := by omega
      rcases this with rfl | rfl | rfl | rfl <;> decide
    generalize numP (b.take j) = X at *
    have hs8 : IntKind.i64.wrap (X * 2 ^ (min (Int.toNat 8) IntKind.i64.bits)) = X * 256 := by
      rw [show min (Int.toNat 8) IntKind.i64.bits = 8 from rfl, show (2 : Int) ^ 8 = 256 from by decide]
      exact wrap_i64 (by omega) (by omega)
    repeat (first | refine Run.seq ?_ | refine Run.skip ?_ | refine Run.block ?_)
    refine Run.region ?_
    first | refine O.cmp rfl rfl rfl (by first | exact decide_eq_true (by omega) | exact decide_eq_false (by omega)) rfl ?_ | refine O.cmp rfl rfl rfl rfl rfl ?_
    refine O.nil ?_
    try refine Run.keep [0, 2, 3, 5, 6, 7, 8, 9] rfl rfl ?_
    repeat (first | refine Run.seq ?_ | refine Run.skip ?_)
    first | refine Run.condT rfl rfl ?_ | refine Run.condF rfl rfl ?_ | refine Run.condT rfl (by assumption) ?_ | refine Run.condF rfl (by assumption) ?_
    repeat (first | refine Run.seq ?_ | refine Run.skip ?_ | refine Run.block ?_)
    refine Run.region ?_
    refine O.index hE T32 rfl T5 rfl rfl (by first | exact newest_pv | exact newest_gl rfl rfl | trivial) rfl (by omega) (by first | assumption | rfl) rfl rfl rfl ?_
    first | refine O.loadS hE T5 rfl rfl rfl (by rfl) rfl ?_ | refine O.loadE hE T5 rfl rfl (by rfl) rfl ?_ | refine O.load hE T5 rfl rfl rfl rfl ?_
    refine O.assign rfl rfl ?_
    refine O.nil ?_
    try refine Run.keep [0, 2, 3, 5, 6, 7, 8, 9] rfl rfl ?_
    repeat (first | refine Run.seq ?_ | refine Run.skip ?_ | refine Run.block ?_)
    refine Run.region ?_
    refine O.move rfl rfl ?_
    refine O.shlQ rfl rfl (by omega) hs8 rfl ?_
    refine O.move rfl rfl ?_
    refine O.convQ hE T5 T3 rfl rfl (wrap_i64 (by omega) (by omega)) rfl ?_
    refine O.bit rfl rfl (or_i64 (by omega) hc8) rfl ?_
    refine O.assign rfl rfl ?_
    refine O.nil ?_
    try refine Run.keep [0, 2, 3, 5, 6, 7, 8, 9] rfl rfl ?_
    repeat (first | refine Run.seq ?_ | refine Run.skip ?_ | refine Run.block ?_)
    refine Run.region ?_
    first | refine O.ar rfl rfl rfl (by exact wrap_i64 (by omega) (by omega)) rfl ?_ | refine O.ar rfl rfl rfl rfl rfl ?_
    refine O.move rfl rfl ?_
    refine O.nil ?_
    try refine Run.keep [0, 2, 3, 5, 6, 7, 8, 9] rfl rfl ?_
    refine ih (j + 1) _ ?_ (by omega) (by omega)
    rw [hst]
    exact SLe.drop (by repeat (first | exact TmIn.nil | refine TmIn.cons rfl ?_)) (by repeat (first | exact BxIn.nil | refine BxIn.cons rfl ?_)) rfl rfl
  obtain rfl : j = b.length := by omega
  rw [List.take_length]
  repeat (first | refine Run.seq ?_ | refine Run.skip ?_ | refine Run.block ?_)
  refine Run.region ?_
  first | refine O.cmp rfl rfl rfl (by first | exact decide_eq_true (by omega) | exact decide_eq_false (by omega)) rfl ?_ | refine O.cmp rfl rfl rfl rfl rfl ?_
  refine O.nil ?_
  try refine Run.keep [0, 2, 3, 5, 6, 7, 8, 9] rfl rfl ?_
  repeat (first | refine Run.seq ?_ | refine Run.skip ?_)
  first | refine Run.condT rfl rfl ?_ | refine Run.condF rfl rfl ?_ | refine Run.condT rfl (by assumption) ?_ | refine Run.condF rfl (by assumption) ?_
  refine Run.exit ?_
  repeat (first | refine thenR_exit ?_ | refine roundR_exit ?_ | refine blockR_exit ?_ | refine blockR_pass rfl ?_)
  repeat (first | refine Run.seq ?_ | refine Run.skip ?_ | refine Run.block ?_)
  refine Run.region ?_
  refine O.move rfl rfl ?_
  refine O.assign rfl rfl ?_
  refine O.nil ?_
  try refine Run.keep [0, 2, 3, 5, 6, 7, 8, 9] rfl rfl ?_
  (repeat (first | refine Run.seq ?_ | refine Run.skip ?_)); (try refine Run.ret ?_); first | exact Ends.flat hE (.inr rfl) rfl rfl (AVle.of_eq rfl) rfl | exact Ends.flat hE (.inl rfl) rfl rfl (AVle.of_eq rfl) rfl
end Go.Proofs.Ytalcpfpjkfpmbaa.Vm
